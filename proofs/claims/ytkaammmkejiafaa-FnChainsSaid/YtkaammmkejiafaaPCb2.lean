import Derived.Test.YtkaammmkejiafaaZz
import Derived.Test.YtkaammmkejiafaaP0
import Derived.Test.YtkaammmkejiafaaPCall0
import Derived.Test.YtkaammmkejiafaaPCall1
import Derived.Test.YtkaammmkejiafaaPCall2
import Derived.Test.YtkaammmkejiafaaPCall3
import Derived.Test.YtkaammmkejiafaaPCb0
import Derived.Test.YtkaammmkejiafaaPCb1
import Derived.Test.YtkaammmkejiafaaPDall0
import Derived.Test.YtkaammmkejiafaaPDb0
import Derived.Test.YtkaammmkejiafaaWRepsOne
import Derived.Test.YtkaammmkejiafaaLv
import Derived.Test.YtkaammmkejiafaaLv
import Derived.Test.YtkaammmkejiafaaLv
import Derived.Test.YtkaammmkejiafaaLv
import Derived.Test.YtkaammmkejiafaaLv
import Derived.Test.YtkaammmkejiafaaLv
import Derived.Test.YtkaammmkejiafaaLv
namespace Go.Proofs.Ytkaammmkejiafaa.P
open Go.RowKit Go.Proofs.YtkaammmkejiafaaW.PrintWords Go.Proofs.YtkaammmkejiafaaW.PrintLast Go.Proofs.YtkaammmkejiafaaW.PrintMore
attribute [local go_sem] max2_int min2_int max_two min_two max_three min_three max_four min_four   -- for this text's walks alone
set_option linter.unusedVariables false
set_option linter.unusedSimpArgs false
set_option maxHeartbeats 8000000 in
set_option maxRecDepth 100000 in
theorem impl_PushVersion.calls (k : Nat) (A0 : Option Addr) (c0 : Nat) (l0 : List (S51)) (a1_0 : Int) (a1_1 : Int) (a2 : Bool) (a3 : Int) (r1 : Int) (r2 : List (S51)) (w : World) (hr0 : Kd.C k51 w A0 l0.length l0) (hc0 : l0.length ≤ c0) (h : impl_PushVersion.f k l0 a1_0 a1_1 a2 a3 = some (r1, r2)) :
 Calls Try.prog 13 #[.slice A0 l0.length c0, .agg #[.int .i64 a1_0, .int .i64 a1_1], .bool a2, .int .i64 a3] w fun e w' => ∃ v1_ : Value, e = .returned (.agg #[.int .i64 r1, v1_]) ∧ Kd.R k51 51 w' w.heap.size (fun _ => True) v1_ r2 ∧ Below w.heap.size w w' := by
 have hu32 := Try.underlying32
 have hu28 := Try.underlying28
 have hu51 := Try.underlying51
 have HR0 := Aside0.mk hr0
 have HC0 := Aside0.mk hc0
 clear hr0 hc0
 have HB := Aside0.mk (Below.refl w.heap.size w)
 have H : ((impl_viewCode.f k l0 a1_0 a1_1).bind fun t74 => (if t74 = 0 then ((impl_isValue.f a3).bind fun t77 => (if t77 = true then (if a2 = true then (if a3 = 0 then ((impl_MayWrite.f k l0 a1_0 a1_1).bind fun t72 => (impl_PushVersion.j0 k l0 a2 a3 t72 a1_0 a1_1)) else (impl_PushVersion.j0 k l0 a2 a3 1 a1_0 a1_1)) else ((impl_MayWrite.f k l0 a1_0 a1_1).bind fun t73 => (impl_PushVersion.j0 k l0 a2 a3 t73 a1_0 a1_1))) else (impl_PushVersion.j0 k l0 a2 a3 3 a1_0 a1_1))) else (impl_PushVersion.j0 k l0 a2 a3 t74 a1_0 a1_1))) = some (r1, r2) := h
 clear h
 replace H := Option.bind_eq_some_iff.mp H
 obtain ⟨t74, A50, H⟩ := H
 replace H : (if t74 = 0 then ((impl_isValue.f a3).bind fun t77 => (if t77 = true then (if a2 = true then (if a3 = 0 then ((impl_MayWrite.f k l0 a1_0 a1_1).bind fun t72 => (impl_PushVersion.j0 k l0 a2 a3 t72 a1_0 a1_1)) else (impl_PushVersion.j0 k l0 a2 a3 1 a1_0 a1_1)) else ((impl_MayWrite.f k l0 a1_0 a1_1).bind fun t73 => (impl_PushVersion.j0 k l0 a2 a3 t73 a1_0 a1_1))) else (impl_PushVersion.j0 k l0 a2 a3 3 a1_0 a1_1))) else (impl_PushVersion.j0 k l0 a2 a3 t74 a1_0 a1_1)) = some (r1, r2) := H
 have A5 := Aside0.mk A50
 clear A50
 have HC6 := Aside0.mk H
 clear H
 go_enter Try.func13, Try.ntmps13
 go_upto_block 0 with (first | ((with_reducible refine gate_dst (N := 5) rfl ?_); refine box_event ?hg (N := 5) ?hd (cs := #[.int .i64 a1_0, .int .i64 a1_1]) (t := 32) ?hr ?_; (case hd => rfl); (case hg => rfl); (case hr => first | (go_simp; done) | (go_simp; rfl)); intro gb66 hg w7 hbox hb; have n0_ := Aside0.mk (below_step zb hb); have n1_ := Aside0.mk (hbox); have n2_ := Aside0.mk ((by rw [hg]; exact (below_size zb) : w.heap.size ≤ gb66)); have n3_ := n2_; clear HB; have HB := n0_; have BK66 := n1_; have GW66 := n2_; have GE66 := n3_; clear n0_ n1_ n2_ n3_; clear hb hbox hg) | ((with_reducible refine gate_dst (N := 8) rfl ?_); refine box_event ?hg (N := 8) ?hd (cs := #[.int .i64 0, .slice none 0 0]) (t := 28) ?hr ?_; (case hd => rfl); (case hg => rfl); (case hr => first | (go_simp; done) | (go_simp; rfl)); intro gb65 hg w8 hbox hb; have n0_ := Aside0.mk (blk_below (g := gb66) (o := .cells #[.int .i64 a1_0, .int .i64 a1_1] 32 (0, 0)) zk hb); have n1_ := Aside0.mk (below_step zb hb); have n2_ := Aside0.mk (hbox); have n3_ := Aside0.mk ((by rw [hg]; exact (below_size zb) : w.heap.size ≤ gb65)); have n4_ := n3_; have n5_ := Aside0.mk ((by rw [hg]; exact Nat.ne_of_lt (blk_lt (g := gb66) (o := .cells #[.int .i64 a1_0, .int .i64 a1_1] 32 (0, 0)) zk) : gb66 ≠ gb65)); have n6_ := Aside0.mk ((by rw [hg]; exact Nat.ne_of_gt (blk_lt (g := gb66) (o := .cells #[.int .i64 a1_0, .int .i64 a1_1] 32 (0, 0)) zk) : gb65 ≠ gb66)); clear BK66; clear HB; have BK66 := n0_; have HB := n1_; have BK65 := n2_; have GW65 := n3_; have GE65 := n4_; have NB394_395 := n5_; have NB395_394 := n6_; clear n0_ n1_ n2_ n3_ n4_ n5_ n6_; clear hb hbox hg; have hnb9 := NB394_395.out; have hnc9 := NB395_394.out; obtain ⟨hcz10_0, hcz10_1, hfz10_0, hfz10_1⟩ := Lv.blks2 BK66.out) | ((with_reducible refine gate_callee (f := 30) rfl ?_); refine goesL_ (some 14) rfl rfl Try.func30 (by kernel_rfl) rfl #[.slice A0 l0.length c0, .agg #[.int .i64 a1_0, .int .i64 a1_1]] rfl zm ?_; (with_reducible refine (impl_viewCode.calls k _ _ l0 a1_0 a1_1 t74 _ ?side1 ?side2 A5.out).mono ?_); (case side1 => repeat (first | exact (Kd.C_below HR0.out HB.out) | (with_reducible first | refine Kd.C_alloc ?_ _ | refine Kd.C_drewN ?_ _ | refine Kd.C_drew ?_))); (case side2 => exact HC0.out); rintro e w11 ⟨rfl, hb⟩; refine ⟨_, rfl, ?_⟩; have n0_ := Aside0.mk (blk_below (g := gb66) (o := .cells #[.int .i64 a1_0, .int .i64 a1_1] 32 (0, 0)) zk hb); have n1_ := Aside0.mk (blk_below (g := gb65) (o := .cells #[.int .i64 0, .slice none 0 0] 28 (0, 0)) zk hb); have n2_ := Aside0.mk (below_step zb hb); clear BK66; clear BK65; clear HB; have BK66 := n0_; have BK65 := n1_; have HB := n2_; clear n0_ n1_ n2_; (try clear hb); (try clear hb2); (try clear hk); (try clear hi)))
 (try simp only [Act.put, List.setIfInBounds_toArray, List.set_cons_zero, List.set_cons_succ])
 go_cut [9] (fun v9 wc => ∃ (kq : Nat) (x9_5 : Int), v9 = .int .i64 x9_5 ∧ Aside0 (impl_PushVersion.j0 kq l0 a2 a3 x9_5 a1_0 a1_1 = some (r1, r2)) ∧ Aside0 (kq ≤ k) ∧ Aside0 (wc.heap[gb66]? = some (.cells #[.int .i64 a1_0, .int .i64 a1_1] 32 (0, 0))) ∧ Aside0 (wc.heap[gb65]? = some (.cells #[.int .i64 0, (.slice none 0 0)] 28 (0, 0))) ∧ Aside0 (Below w.heap.size w wc))
 case first =>
  have H := HC6.out
  clear HC6
  by_cases c12 : t74 = 0
  ·rw [if_pos c12] at H
   have c12b0 : (t74 == 0) = true := beq_iff_eq.mpr c12
   have c12b1 : (t74 != 0) = false := bne_eq_false_iff_eq.mpr c12
   clear c12
   (first | rw [c12b0] | (simp only [i64_w, i32_w]; rw [c12b0]) | skip)
   replace H := Option.bind_eq_some_iff.mp H
   obtain ⟨t77, A79, H⟩ := H
   replace H : (if t77 = true then (if a2 = true then (if a3 = 0 then ((impl_MayWrite.f k l0 a1_0 a1_1).bind fun t72 => (impl_PushVersion.j0 k l0 a2 a3 t72 a1_0 a1_1)) else (impl_PushVersion.j0 k l0 a2 a3 1 a1_0 a1_1)) else ((impl_MayWrite.f k l0 a1_0 a1_1).bind fun t73 => (impl_PushVersion.j0 k l0 a2 a3 t73 a1_0 a1_1))) else (impl_PushVersion.j0 k l0 a2 a3 3 a1_0 a1_1)) = some (r1, r2) := H
   have A13 := Aside0.mk A79
   clear A79
   by_cases c14 : t77 = true
   ·subst c14
    have H1 : (if a2 = true then (if a3 = 0 then ((impl_MayWrite.f k l0 a1_0 a1_1).bind fun t72 => (impl_PushVersion.j0 k l0 a2 a3 t72 a1_0 a1_1)) else (impl_PushVersion.j0 k l0 a2 a3 1 a1_0 a1_1)) else ((impl_MayWrite.f k l0 a1_0 a1_1).bind fun t73 => (impl_PushVersion.j0 k l0 a2 a3 t73 a1_0 a1_1))) = some (r1, r2) := by rw [if_pos rfl] at H; exact H
    clear H
    have H := H1
    clear H1
    by_cases c15 : a2 = true
    ·subst c15
     have H1 : (if a3 = 0 then ((impl_MayWrite.f k l0 a1_0 a1_1).bind fun t72 => (impl_PushVersion.j0 k l0 true a3 t72 a1_0 a1_1)) else (impl_PushVersion.j0 k l0 true a3 1 a1_0 a1_1)) = some (r1, r2) := by rw [if_pos rfl] at H; exact H
     clear H
     have H := H1
     clear H1
     by_cases c16 : a3 = 0
     ·rw [if_pos c16] at H
      have c16b0 : (a3 == 0) = true := beq_iff_eq.mpr c16
      have c16b1 : (a3 != 0) = false := bne_eq_false_iff_eq.mpr c16
      clear c16
      replace H := Option.bind_eq_some_iff.mp H
      obtain ⟨t72, A80, H⟩ := H
      replace H : (impl_PushVersion.j0 k l0 true a3 t72 a1_0 a1_1) = some (r1, r2) := H
      have A17 := Aside0.mk A80
      clear A80
      have H' := Aside0.mk H
      clear H
      go_wp2_with (first | ((with_reducible refine gate_callee (f := 29) rfl ?_); refine goesL_ (some 23) rfl rfl Try.func29 (by kernel_rfl) rfl #[.int .i64 a3] rfl zm ?_; (with_reducible refine (impl_isValue.calls a3 true _ A13.out).mono ?_); rintro e w' ⟨rfl, ⟨nd, rfl⟩⟩; refine ⟨_, rfl, ?_⟩; have hnb18 := NB394_395.out; have hnc18 := NB395_394.out; obtain ⟨hcz19_0, hcz19_1, hfz19_0, hfz19_1⟩ := Lv.blks2 BK66.out) | ((with_reducible refine gate_callee (f := 11) rfl ?_); refine goesL_ (some 17) rfl rfl Try.func11 (by kernel_rfl) rfl #[.slice A0 l0.length c0, .agg #[.int .i64 a1_0, .int .i64 a1_1]] rfl zm ?_; (with_reducible refine (impl_MayWrite.calls k _ _ l0 a1_0 a1_1 t72 _ ?side1 ?side2 A17.out).mono ?_); (case side1 => repeat (first | exact (Kd.C_below HR0.out zb) | (with_reducible first | refine Kd.C_alloc ?_ _ | refine Kd.C_drewN ?_ _ | refine Kd.C_drew ?_))); (case side2 => exact HC0.out); rintro e w20 ⟨rfl, hb⟩; refine ⟨_, rfl, ?_⟩; have n0_ := Aside0.mk (blk_below (g := gb66) (o := .cells #[.int .i64 a1_0, .int .i64 a1_1] 32 (0, 0)) zk hb); have n1_ := Aside0.mk (blk_below (g := gb65) (o := .cells #[.int .i64 0, .slice none 0 0] 28 (0, 0)) zk hb); have n2_ := Aside0.mk (below_step zb hb); clear BK66; clear BK65; clear HB; have BK66 := n0_; have BK65 := n1_; have HB := n2_; clear n0_ n1_ n2_; (try clear hb); (try clear hb2); (try clear hk); (try clear hi)))
      go_meet
      case rel => exact ⟨_, (t72), zs, H', ⟨by first | omega | exact Nat.le_refl _⟩, ⟨by (with_reducible repeat (first | refine blk_drewN ?_ _ | refine blk_drew ?_ | refine blk_alloc ?_ _)); exact BK66.out⟩, ⟨by (with_reducible repeat (first | refine blk_drewN ?_ _ | refine blk_drew ?_ | refine blk_alloc ?_ _)); exact BK65.out⟩, ⟨zb⟩⟩
     rw [if_neg c16] at H
     have c16b0 : (a3 == 0) = false := beq_eq_false_iff_ne.mpr c16
     have c16b1 : (a3 != 0) = true := bne_iff_ne.mpr c16
     have H' := Aside0.mk H
     clear H
     go_wp2_with (first | ((with_reducible refine gate_callee (f := 29) rfl ?_); refine goesL_ (some 23) rfl rfl Try.func29 (by kernel_rfl) rfl #[.int .i64 a3] rfl zm ?_; (with_reducible refine (impl_isValue.calls a3 true _ A13.out).mono ?_); rintro e w' ⟨rfl, ⟨nd, rfl⟩⟩; refine ⟨_, rfl, ?_⟩))
     go_meet
     case rel => exact ⟨_, (1), zs, H', ⟨by first | omega | exact Nat.le_refl _⟩, ⟨by (with_reducible repeat (first | refine blk_drewN ?_ _ | refine blk_drew ?_ | refine blk_alloc ?_ _)); exact BK66.out⟩, ⟨by (with_reducible repeat (first | refine blk_drewN ?_ _ | refine blk_drew ?_ | refine blk_alloc ?_ _)); exact BK65.out⟩, ⟨zb⟩⟩
    replace c15 := Bool.eq_false_iff.mpr c15
    subst c15
    have H1 : ((impl_MayWrite.f k l0 a1_0 a1_1).bind fun t73 => (impl_PushVersion.j0 k l0 false a3 t73 a1_0 a1_1)) = some (r1, r2) := by rw [if_neg (show ¬ (false = true) by decide)] at H; exact H
    clear H
    have H := H1
    clear H1
    replace H := Option.bind_eq_some_iff.mp H
    obtain ⟨t73, A81, H⟩ := H
    replace H : (impl_PushVersion.j0 k l0 false a3 t73 a1_0 a1_1) = some (r1, r2) := H
    have A21 := Aside0.mk A81
    clear A81
    have H' := Aside0.mk H
    clear H
    go_wp2_with (first | ((with_reducible refine gate_callee (f := 29) rfl ?_); refine goesL_ (some 23) rfl rfl Try.func29 (by kernel_rfl) rfl #[.int .i64 a3] rfl zm ?_; (with_reducible refine (impl_isValue.calls a3 true _ A13.out).mono ?_); rintro e w' ⟨rfl, ⟨nd, rfl⟩⟩; refine ⟨_, rfl, ?_⟩; have hnb22 := NB394_395.out; have hnc22 := NB395_394.out; obtain ⟨hcz23_0, hcz23_1, hfz23_0, hfz23_1⟩ := Lv.blks2 BK66.out) | ((with_reducible refine gate_callee (f := 11) rfl ?_); refine goesL_ (some 17) rfl rfl Try.func11 (by kernel_rfl) rfl #[.slice A0 l0.length c0, .agg #[.int .i64 a1_0, .int .i64 a1_1]] rfl zm ?_; (with_reducible refine (impl_MayWrite.calls k _ _ l0 a1_0 a1_1 t73 _ ?side1 ?side2 A21.out).mono ?_); (case side1 => repeat (first | exact (Kd.C_below HR0.out zb) | (with_reducible first | refine Kd.C_alloc ?_ _ | refine Kd.C_drewN ?_ _ | refine Kd.C_drew ?_))); (case side2 => exact HC0.out); rintro e w24 ⟨rfl, hb⟩; refine ⟨_, rfl, ?_⟩; have n0_ := Aside0.mk (blk_below (g := gb66) (o := .cells #[.int .i64 a1_0, .int .i64 a1_1] 32 (0, 0)) zk hb); have n1_ := Aside0.mk (blk_below (g := gb65) (o := .cells #[.int .i64 0, .slice none 0 0] 28 (0, 0)) zk hb); have n2_ := Aside0.mk (below_step zb hb); clear BK66; clear BK65; clear HB; have BK66 := n0_; have BK65 := n1_; have HB := n2_; clear n0_ n1_ n2_; (try clear hb); (try clear hb2); (try clear hk); (try clear hi)))
    go_meet
    case rel => exact ⟨_, (t73), zs, H', ⟨by first | omega | exact Nat.le_refl _⟩, ⟨by (with_reducible repeat (first | refine blk_drewN ?_ _ | refine blk_drew ?_ | refine blk_alloc ?_ _)); exact BK66.out⟩, ⟨by (with_reducible repeat (first | refine blk_drewN ?_ _ | refine blk_drew ?_ | refine blk_alloc ?_ _)); exact BK65.out⟩, ⟨zb⟩⟩
   replace c14 := Bool.eq_false_iff.mpr c14
   subst c14
   have H1 : (impl_PushVersion.j0 k l0 a2 a3 3 a1_0 a1_1) = some (r1, r2) := by rw [if_neg (show ¬ (false = true) by decide)] at H; exact H
   clear H
   have H := H1
   clear H1
   have H' := Aside0.mk H
   clear H
   go_wp2_with (first | ((with_reducible refine gate_callee (f := 29) rfl ?_); refine goesL_ (some 23) rfl rfl Try.func29 (by kernel_rfl) rfl #[.int .i64 a3] rfl zm ?_; (with_reducible refine (impl_isValue.calls a3 false _ A13.out).mono ?_); rintro e w' ⟨rfl, ⟨nd, rfl⟩⟩; refine ⟨_, rfl, ?_⟩))
   go_meet
   case rel => exact ⟨_, (3), zs, H', ⟨by first | omega | exact Nat.le_refl _⟩, ⟨by (with_reducible repeat (first | refine blk_drewN ?_ _ | refine blk_drew ?_ | refine blk_alloc ?_ _)); exact BK66.out⟩, ⟨by (with_reducible repeat (first | refine blk_drewN ?_ _ | refine blk_drew ?_ | refine blk_alloc ?_ _)); exact BK65.out⟩, ⟨zb⟩⟩
  rw [if_neg c12] at H
  have c12b0 : (t74 == 0) = false := beq_eq_false_iff_ne.mpr c12
  have c12b1 : (t74 != 0) = true := bne_iff_ne.mpr c12
  (first | rw [c12b0] | (simp only [i64_w, i32_w]; rw [c12b0]) | skip)
  have H' := Aside0.mk H
  clear H
  go_wp2
  go_meet
  case rel => exact ⟨_, (t74), zs, H', ⟨by first | omega | exact Nat.le_refl _⟩, ⟨by (with_reducible repeat (first | refine blk_drewN ?_ _ | refine blk_drew ?_ | refine blk_alloc ?_ _)); exact BK66.out⟩, ⟨by (with_reducible repeat (first | refine blk_drewN ?_ _ | refine blk_drew ?_ | refine blk_alloc ?_ _)); exact BK65.out⟩, ⟨zb⟩⟩
 case rest =>
  clear HC6
  try clear c1
  try clear c2
  try clear p2
  try clear c3
  try clear c9
  try clear c11
  try clear c12
  try clear c12b0
  try clear c12b1
  try clear c13
  try clear c14
  try clear c15
  try clear c16
  try clear c16b0
  try clear c16b1
  try clear c18
  try clear c22
  try clear hcz10_0 hcz10_1
  try clear hcz19_0 hcz19_1
  try clear hcz23_0 hcz23_1
  try clear hfz10_0 hfz10_1
  try clear hfz19_0 hfz19_1
  try clear hfz23_0 hfz23_1
  obtain ⟨kq, x9_5, rfl, HA, HJ5, BK66, BK65, HB⟩ := hcut
  cases kq with
  | zero => exact absurd HA.out (by simp [impl_PushVersion.j0])
  | succ kj5 =>
   have H := HA.out
   clear HA
   simp only [impl_PushVersion.j0] at H
   by_cases c25 : x9_5 = 0
   ·rw [if_pos c25] at H
    have c25b0 : (x9_5 == 0) = true := beq_iff_eq.mpr c25
    have c25b1 : (x9_5 != 0) = false := bne_eq_false_iff_eq.mpr c25
    clear c25
    have HC26 := Aside0.mk H
    clear H
    have hnb27 := NB394_395.out
    have hnc27 := NB395_394.out
    obtain ⟨hcz28_0, hcz28_1, hfz28_0, hfz28_1⟩ := Lv.blks2 BK66.out
    go_upto_region 11 with (first | ((with_reducible refine gate_dst (N := 10) rfl ?_); refine box_event ?hg (N := 10) ?hd (cs := #[.int .i64 0, .int .i64 0, .bool false, .int .i64 0]) (t := 51) ?hr ?_; (case hd => rfl); (case hg => rfl); (case hr => first | (go_simp; done) | (go_simp; rfl)); intro gb68 hg w29 hbox hb; have n0_ := Aside0.mk (blk_below (g := gb66) (o := .cells #[.int .i64 a1_0, .int .i64 a1_1] 32 (0, 0)) zk hb); have n1_ := Aside0.mk (blk_below (g := gb65) (o := .cells #[.int .i64 0, .slice none 0 0] 28 (0, 0)) zk hb); have n2_ := Aside0.mk (below_step zb hb); have n3_ := Aside0.mk (hbox); have n4_ := Aside0.mk ((by rw [hg]; exact (below_size zb) : w.heap.size ≤ gb68)); have n5_ := n4_; have n6_ := Aside0.mk ((by rw [hg]; exact Nat.ne_of_lt (blk_lt (g := gb66) (o := .cells #[.int .i64 a1_0, .int .i64 a1_1] 32 (0, 0)) zk) : gb66 ≠ gb68)); have n7_ := Aside0.mk ((by rw [hg]; exact Nat.ne_of_gt (blk_lt (g := gb66) (o := .cells #[.int .i64 a1_0, .int .i64 a1_1] 32 (0, 0)) zk) : gb68 ≠ gb66)); have n8_ := Aside0.mk ((by rw [hg]; exact Nat.ne_of_lt (blk_lt (g := gb65) (o := .cells #[.int .i64 0, .slice none 0 0] 28 (0, 0)) zk) : gb65 ≠ gb68)); have n9_ := Aside0.mk ((by rw [hg]; exact Nat.ne_of_gt (blk_lt (g := gb65) (o := .cells #[.int .i64 0, .slice none 0 0] 28 (0, 0)) zk) : gb68 ≠ gb65)); clear BK66; clear BK65; clear HB; have BK66 := n0_; have BK65 := n1_; have HB := n2_; have BK68 := n3_; have GW68 := n4_; have GE68 := n5_; have NB394_400 := n6_; have NB400_394 := n7_; have NB395_400 := n8_; have NB400_395 := n9_; clear n0_ n1_ n2_ n3_ n4_ n5_ n6_ n7_ n8_ n9_; clear hb hbox hg; have hnb30 := NB400_394.out; have hnc30 := NB394_400.out; have hnb31 := NB400_395.out; have hnc31 := NB395_400.out; obtain ⟨hcz32_0, hcz32_1, hcz32_2, hcz32_3, hfz32_0, hfz32_1, hfz32_2, hfz32_3⟩ := Lv.blks4 BK68.out))
    (try simp only [Act.put, List.setIfInBounds_toArray, List.set_cons_zero, List.set_cons_succ])
    go_cut [49] (fun v49 wc => ∃ (kq : Nat) (x49_25 : Bool), v49 = .bool x49_25 ∧ Aside0 (impl_PushVersion.j1 kq l0 x49_25 a1_1 0 a2 a3 = some (r1, r2)) ∧ Aside0 (kq ≤ kj5) ∧ Aside0 (wc.heap[gb66]? = some (.cells #[.int .i64 a1_0, .int .i64 a1_1] 32 (0, 0))) ∧ Aside0 (wc.heap[gb65]? = some (.cells #[.int .i64 0, (.slice none 0 0)] 28 (0, 0))) ∧ Aside0 (wc.heap[gb68]? = some (.cells #[.int .i64 a1_1, .int .i64 0, .bool a2, .int .i64 a3] 51 (0, 0))) ∧ Aside0 (Below w.heap.size w wc))
    case first =>
     have H := HC26.out
     clear HC26
     by_cases c33 : (l0.length : Int) > 0
     ·rw [if_pos c33] at H
      have c33b0 : decide (0 < (l0.length : Int)) = true := decide_eq_true c33
      have c33b1 : decide (0 < l0.length) = true := decide_eq_true (by omega)
      clear c33
      (first | rw [c33b0] | (simp only [i64_w, i32_w]; rw [c33b0]) | skip)
      by_cases c34 : 0 < (l0.length : Int)
      ·rw [if_pos c34] at H
       have c34b0 : decide (0 < (l0.length : Int)) = true := decide_eq_true c34
       have c34b1 : decide (0 < l0.length) = true := decide_eq_true (by omega)
       clear c34
       have H' := Aside0.mk H
       clear H
       have p401 : 0 ≤ (0 : Int) := (by omega)
       have q67 : 0 < (l0.length : Int) := of_decide_eq_true za
       obtain ⟨ad67, e401, hx67_0, hx67_1, hx67_2, hx67_3⟩ := at_T51 HR0.out 0 p401 q67
       cases e401
       have qi401 : (0 < l0.length) = True := eq_true (by omega)
       (try rw [show ((0 : Int)).toNat = 0 from rfl] at hx67_0)
       (try rw [show 0 * 4 = 0 from rfl] at hx67_0)
       (try rw [Addr.add_zero'] at hx67_0)
       (try rw [show ((0 : Int)).toNat = 0 from rfl] at hx67_1)
       (try rw [show 0 * 4 = 0 from rfl] at hx67_1)
       (try rw [Addr.add_zero'] at hx67_1)
       (try rw [show ((0 : Int)).toNat = 0 from rfl] at hx67_2)
       (try rw [show 0 * 4 = 0 from rfl] at hx67_2)
       (try rw [Addr.add_zero'] at hx67_2)
       (try rw [show ((0 : Int)).toNat = 0 from rfl] at hx67_3)
       (try rw [show 0 * 4 = 0 from rfl] at hx67_3)
       (try rw [Addr.add_zero'] at hx67_3)
       have hn401_0 : ad67.block ≠ gb68 := Nat.ne_of_lt (Nat.lt_of_lt_of_le (by have := World.block_lt_of_cell? _ _ hx67_0; first | rwa [add_block] at this | exact this) GW68.out)
       have hn401_1 : ad67.block ≠ gb68 := Nat.ne_of_lt (Nat.lt_of_lt_of_le (by have := World.block_lt_of_cell? _ _ hx67_0; first | rwa [add_block] at this | exact this) GW68.out)
       have hn401_2 : ad67.block ≠ gb68 := Nat.ne_of_lt (Nat.lt_of_lt_of_le (by have := World.block_lt_of_cell? _ _ hx67_0; first | rwa [add_block] at this | exact this) GW68.out)
       have hn401_3 : ad67.block ≠ gb68 := Nat.ne_of_lt (Nat.lt_of_lt_of_le (by have := World.block_lt_of_cell? _ _ hx67_0; first | rwa [add_block] at this | exact this) GW68.out)
       replace hx67_0 := zx HB hx67_0
       replace hx67_1 := zx HB hx67_1
       replace hx67_2 := zx HB hx67_2
       replace hx67_3 := zx HB hx67_3
       replace hx67_0 := (cell_far (p := ⟨gb68, 0, none⟩) (by first | (rw [add_block]; exact hn401_0) | (show (Addr.add _ _).block ≠ _; rw [add_block]; exact hn401_0) | exact hn401_0) (.int .i64 a1_1)).trans hx67_0
       replace hx67_1 := (cell_far (p := ⟨gb68, 0, none⟩) (by first | (rw [add_block]; exact hn401_0) | (show (Addr.add _ _).block ≠ _; rw [add_block]; exact hn401_0) | exact hn401_0) (.int .i64 a1_1)).trans hx67_1
       replace hx67_2 := (cell_far (p := ⟨gb68, 0, none⟩) (by first | (rw [add_block]; exact hn401_0) | (show (Addr.add _ _).block ≠ _; rw [add_block]; exact hn401_0) | exact hn401_0) (.int .i64 a1_1)).trans hx67_2
       replace hx67_3 := (cell_far (p := ⟨gb68, 0, none⟩) (by first | (rw [add_block]; exact hn401_0) | (show (Addr.add _ _).block ≠ _; rw [add_block]; exact hn401_0) | exact hn401_0) (.int .i64 a1_1)).trans hx67_3
       replace hx67_0 := (cell_far (p := ⟨gb68, 1, none⟩) (by first | (rw [add_block]; exact hn401_1) | (show (Addr.add _ _).block ≠ _; rw [add_block]; exact hn401_1) | exact hn401_1) (.int .i64 0)).trans hx67_0
       replace hx67_1 := (cell_far (p := ⟨gb68, 1, none⟩) (by first | (rw [add_block]; exact hn401_1) | (show (Addr.add _ _).block ≠ _; rw [add_block]; exact hn401_1) | exact hn401_1) (.int .i64 0)).trans hx67_1
       replace hx67_2 := (cell_far (p := ⟨gb68, 1, none⟩) (by first | (rw [add_block]; exact hn401_1) | (show (Addr.add _ _).block ≠ _; rw [add_block]; exact hn401_1) | exact hn401_1) (.int .i64 0)).trans hx67_2
       replace hx67_3 := (cell_far (p := ⟨gb68, 1, none⟩) (by first | (rw [add_block]; exact hn401_1) | (show (Addr.add _ _).block ≠ _; rw [add_block]; exact hn401_1) | exact hn401_1) (.int .i64 0)).trans hx67_3
       replace hx67_0 := (cell_far (p := ⟨gb68, 2, none⟩) (by first | (rw [add_block]; exact hn401_2) | (show (Addr.add _ _).block ≠ _; rw [add_block]; exact hn401_2) | exact hn401_2) (.bool a2)).trans hx67_0
       replace hx67_1 := (cell_far (p := ⟨gb68, 2, none⟩) (by first | (rw [add_block]; exact hn401_2) | (show (Addr.add _ _).block ≠ _; rw [add_block]; exact hn401_2) | exact hn401_2) (.bool a2)).trans hx67_1
       replace hx67_2 := (cell_far (p := ⟨gb68, 2, none⟩) (by first | (rw [add_block]; exact hn401_2) | (show (Addr.add _ _).block ≠ _; rw [add_block]; exact hn401_2) | exact hn401_2) (.bool a2)).trans hx67_2
       replace hx67_3 := (cell_far (p := ⟨gb68, 2, none⟩) (by first | (rw [add_block]; exact hn401_2) | (show (Addr.add _ _).block ≠ _; rw [add_block]; exact hn401_2) | exact hn401_2) (.bool a2)).trans hx67_3
       replace hx67_0 := (cell_far (p := ⟨gb68, 3, none⟩) (by first | (rw [add_block]; exact hn401_3) | (show (Addr.add _ _).block ≠ _; rw [add_block]; exact hn401_3) | exact hn401_3) (.int .i64 a3)).trans hx67_0
       replace hx67_1 := (cell_far (p := ⟨gb68, 3, none⟩) (by first | (rw [add_block]; exact hn401_3) | (show (Addr.add _ _).block ≠ _; rw [add_block]; exact hn401_3) | exact hn401_3) (.int .i64 a3)).trans hx67_1
       replace hx67_2 := (cell_far (p := ⟨gb68, 3, none⟩) (by first | (rw [add_block]; exact hn401_3) | (show (Addr.add _ _).block ≠ _; rw [add_block]; exact hn401_3) | exact hn401_3) (.int .i64 a3)).trans hx67_2
       replace hx67_3 := (cell_far (p := ⟨gb68, 3, none⟩) (by first | (rw [add_block]; exact hn401_3) | (show (Addr.add _ _).block ≠ _; rw [add_block]; exact hn401_3) | exact hn401_3) (.int .i64 a3)).trans hx67_3
       clear hn401_0
       clear hn401_1
       clear hn401_2
       clear hn401_3
       replace p401 := eq_true p401
       replace q67 := eq_true q67
       go_wp2
       go_meet
       case rel => exact ⟨_, ((((rd_T51 l0 0).f1) == 0)), zs, H', ⟨by have := HJ5.out; first | omega | exact Nat.le_refl _⟩, ⟨by (with_reducible repeat (first | refine blk_drewN ?_ _ | refine blk_drew ?_ | refine blk_alloc ?_ _)); refine blk_far ?_ NB394_400.out _; (with_reducible repeat (first | refine blk_drewN ?_ _ | refine blk_drew ?_ | refine blk_alloc ?_ _)); refine blk_far ?_ NB394_400.out _; (with_reducible repeat (first | refine blk_drewN ?_ _ | refine blk_drew ?_ | refine blk_alloc ?_ _)); refine blk_far ?_ NB394_400.out _; (with_reducible repeat (first | refine blk_drewN ?_ _ | refine blk_drew ?_ | refine blk_alloc ?_ _)); refine blk_far ?_ NB394_400.out _; (with_reducible repeat (first | refine blk_drewN ?_ _ | refine blk_drew ?_ | refine blk_alloc ?_ _)); exact BK66.out⟩, ⟨by (with_reducible repeat (first | refine blk_drewN ?_ _ | refine blk_drew ?_ | refine blk_alloc ?_ _)); refine blk_far ?_ NB395_400.out _; (with_reducible repeat (first | refine blk_drewN ?_ _ | refine blk_drew ?_ | refine blk_alloc ?_ _)); refine blk_far ?_ NB395_400.out _; (with_reducible repeat (first | refine blk_drewN ?_ _ | refine blk_drew ?_ | refine blk_alloc ?_ _)); refine blk_far ?_ NB395_400.out _; (with_reducible repeat (first | refine blk_drewN ?_ _ | refine blk_drew ?_ | refine blk_alloc ?_ _)); refine blk_far ?_ NB395_400.out _; (with_reducible repeat (first | refine blk_drewN ?_ _ | refine blk_drew ?_ | refine blk_alloc ?_ _)); exact BK65.out⟩, ⟨by (with_reducible repeat (first | refine blk_drewN ?_ _ | refine blk_drew ?_ | refine blk_alloc ?_ _)); refine blk_put (cs := #[.int .i64 a1_1, .int .i64 0, .bool a2, .int .i64 0]) ?_ 3 _ rfl; (with_reducible repeat (first | refine blk_drewN ?_ _ | refine blk_drew ?_ | refine blk_alloc ?_ _)); refine blk_put (cs := #[.int .i64 a1_1, .int .i64 0, .bool false, .int .i64 0]) ?_ 2 _ rfl; (with_reducible repeat (first | refine blk_drewN ?_ _ | refine blk_drew ?_ | refine blk_alloc ?_ _)); refine blk_put (cs := #[.int .i64 a1_1, .int .i64 0, .bool false, .int .i64 0]) ?_ 1 _ rfl; (with_reducible repeat (first | refine blk_drewN ?_ _ | refine blk_drew ?_ | refine blk_alloc ?_ _)); refine blk_put (cs := #[.int .i64 0, .int .i64 0, .bool false, .int .i64 0]) ?_ 0 _ rfl; (with_reducible repeat (first | refine blk_drewN ?_ _ | refine blk_drew ?_ | refine blk_alloc ?_ _)); exact BK68.out⟩, ⟨zb⟩⟩
      rw [if_neg c34] at H
      exact absurd H (by simp)
     rw [if_neg c33] at H
     have c33b0 : decide (0 < (l0.length : Int)) = false := decide_eq_false c33
     have c33b1 : decide (0 < l0.length) = false := decide_eq_false (by omega)
     clear c33
     (first | rw [c33b0] | (simp only [i64_w, i32_w]; rw [c33b0]) | skip)
     have H' := Aside0.mk H
     clear H
     go_wp2
     go_meet
     case rel => exact ⟨_, (false), zs, H', ⟨by have := HJ5.out; first | omega | exact Nat.le_refl _⟩, ⟨by (with_reducible repeat (first | refine blk_drewN ?_ _ | refine blk_drew ?_ | refine blk_alloc ?_ _)); refine blk_far ?_ NB394_400.out _; (with_reducible repeat (first | refine blk_drewN ?_ _ | refine blk_drew ?_ | refine blk_alloc ?_ _)); refine blk_far ?_ NB394_400.out _; (with_reducible repeat (first | refine blk_drewN ?_ _ | refine blk_drew ?_ | refine blk_alloc ?_ _)); refine blk_far ?_ NB394_400.out _; (with_reducible repeat (first | refine blk_drewN ?_ _ | refine blk_drew ?_ | refine blk_alloc ?_ _)); refine blk_far ?_ NB394_400.out _; (with_reducible repeat (first | refine blk_drewN ?_ _ | refine blk_drew ?_ | refine blk_alloc ?_ _)); exact BK66.out⟩, ⟨by (with_reducible repeat (first | refine blk_drewN ?_ _ | refine blk_drew ?_ | refine blk_alloc ?_ _)); refine blk_far ?_ NB395_400.out _; (with_reducible repeat (first | refine blk_drewN ?_ _ | refine blk_drew ?_ | refine blk_alloc ?_ _)); refine blk_far ?_ NB395_400.out _; (with_reducible repeat (first | refine blk_drewN ?_ _ | refine blk_drew ?_ | refine blk_alloc ?_ _)); refine blk_far ?_ NB395_400.out _; (with_reducible repeat (first | refine blk_drewN ?_ _ | refine blk_drew ?_ | refine blk_alloc ?_ _)); refine blk_far ?_ NB395_400.out _; (with_reducible repeat (first | refine blk_drewN ?_ _ | refine blk_drew ?_ | refine blk_alloc ?_ _)); exact BK65.out⟩, ⟨by (with_reducible repeat (first | refine blk_drewN ?_ _ | refine blk_drew ?_ | refine blk_alloc ?_ _)); refine blk_put (cs := #[.int .i64 a1_1, .int .i64 0, .bool a2, .int .i64 0]) ?_ 3 _ rfl; (with_reducible repeat (first | refine blk_drewN ?_ _ | refine blk_drew ?_ | refine blk_alloc ?_ _)); refine blk_put (cs := #[.int .i64 a1_1, .int .i64 0, .bool false, .int .i64 0]) ?_ 2 _ rfl; (with_reducible repeat (first | refine blk_drewN ?_ _ | refine blk_drew ?_ | refine blk_alloc ?_ _)); refine blk_put (cs := #[.int .i64 a1_1, .int .i64 0, .bool false, .int .i64 0]) ?_ 1 _ rfl; (with_reducible repeat (first | refine blk_drewN ?_ _ | refine blk_drew ?_ | refine blk_alloc ?_ _)); refine blk_put (cs := #[.int .i64 0, .int .i64 0, .bool false, .int .i64 0]) ?_ 0 _ rfl; (with_reducible repeat (first | refine blk_drewN ?_ _ | refine blk_drew ?_ | refine blk_alloc ?_ _)); exact BK68.out⟩, ⟨zb⟩⟩
    case rest =>
     clear HC26
     try clear c1
     try clear c2
     try clear p2
     try clear c3
     try clear p4
     try clear q4
     try clear hx4
     try clear qi4
     try clear c9
     try clear c11
     try clear c12
     try clear c12b0
     try clear c12b1
     try clear c13
     try clear c14
     try clear c15
     try clear c16
     try clear c16b0
     try clear c16b1
     try clear c18
     try clear c22
     try clear c25
     try clear c25b0
     try clear c25b1
     try clear c27
     try clear c29
     try clear c30
     try clear c31
     try clear c33
     try clear c33b0
     try clear c33b1
     try clear c34
     try clear c34b0
     try clear c34b1
     try clear hcz10_0 hcz10_1
     try clear hcz19_0 hcz19_1
     try clear hcz23_0 hcz23_1
     try clear hcz28_0 hcz28_1
     try clear hcz32_0 hcz32_1 hcz32_2 hcz32_3
     try clear hfz10_0 hfz10_1
     try clear hfz19_0 hfz19_1
     try clear hfz23_0 hfz23_1
     try clear hfz28_0 hfz28_1
     try clear hfz32_0 hfz32_1 hfz32_2 hfz32_3
     try clear hx67_0
     try clear hx67_1
     try clear hx67_2
     try clear hx67_3
     try clear p2
     try clear p401
     try clear q67
     obtain ⟨kq, x49_25, rfl, HA, HJ25, BK66, BK65, BK68, HB⟩ := hcut
     cases kq with
     | zero => exact absurd HA.out (by simp [impl_PushVersion.j1])
     | succ kj25 =>
      have H := HA.out
      clear HA
      simp only [impl_PushVersion.j1] at H
      by_cases c35 : x49_25 = true
      ·subst c35
       have H1 : ((slices_Clone_impl_Version.f l0).bind fun t69 => (if 0 < (t69.length : Int) then (some (0, (t69.set (0 : Int).toNat (⟨a1_1, 0, a2, a3⟩ : S51)))) else (none))) = some (r1, r2) := by rw [if_pos rfl] at H; exact H
       clear H
       have H := H1
       clear H1
       replace H := Option.bind_eq_some_iff.mp H
       obtain ⟨t69, A82, H⟩ := H
       replace H : (if 0 < (t69.length : Int) then (some (0, (t69.set (0 : Int).toNat (⟨a1_1, 0, a2, a3⟩ : S51)))) else (none)) = some (r1, r2) := H
       have A36 := Aside0.mk A82
       clear A82
       by_cases c37 : 0 < (t69.length : Int)
       ·rw [if_pos c37] at H
        have c37b0 : decide (0 < (t69.length : Int)) = true := decide_eq_true c37
        have c37b1 : decide (0 < t69.length) = true := decide_eq_true (by omega)
        clear c37
        obtain ⟨y76, hy76⟩ : ∃ y_ : List (S51), y_ = (t69.set (0 : Int).toNat (⟨a1_1, 0, a2, a3⟩ : S51)) := ⟨_, rfl⟩
        replace H : (some (0, y76)) = some (r1, r2) := by first | (rw [hy76]; with_reducible exact H) | (have H2_ := (Option.bind_some _ _).symm.trans H; rw [hy76]; with_reducible exact H2_) | (have H2_ := (Option.bind_some _ _).symm.trans H; with_reducible exact H2_) | with_reducible exact H | (rw [hy76]; exact H) | exact H
        have Ny76 := Aside0.mk hy76
        clear hy76
        simp only [Option.some.injEq, Prod.mk.injEq] at H
        obtain ⟨rfl, rfl⟩ := H
        go_wp2_with (first | ((with_reducible refine gate_callee (f := 37) rfl ?_); refine goesL_ (some 51) rfl rfl Try.func37 (by kernel_rfl) rfl #[.slice A0 l0.length c0] rfl zm ?_; (with_reducible refine (slices_Clone_impl_Version.calls _ _ l0 t69 _ ?side1 ?side2 A36.out).mono ?_); (case side1 => repeat (first | exact (Kd.C_below HR0.out HB.out) | (with_reducible first | refine Kd.C_alloc ?_ _ | refine Kd.C_drewN ?_ _ | refine Kd.C_drew ?_))); (case side2 => exact HC0.out); rintro e w39 ⟨v85, rfl, ho0, hb⟩; refine ⟨_, rfl, ?_⟩; have n0_ := Aside0.mk (Kd.R_lower (Kd.R_newB ho0 (g := gb68) (o := .cells #[.int .i64 a1_1, .int .i64 0, .bool a2, .int .i64 a3] 51 (0, 0)) zk) (below_size zb)); have n1_ := Aside0.mk (blk_below (g := gb66) (o := .cells #[.int .i64 a1_0, .int .i64 a1_1] 32 (0, 0)) zk hb); have n2_ := Aside0.mk (blk_below (g := gb65) (o := .cells #[.int .i64 0, .slice none 0 0] 28 (0, 0)) zk hb); have n3_ := Aside0.mk (blk_below (g := gb68) (o := .cells #[.int .i64 a1_1, .int .i64 0, .bool a2, .int .i64 a3] 51 (0, 0)) zk hb); have n4_ := Aside0.mk (below_step zb hb); clear BK66; clear BK65; clear BK68; clear HB; have HO71 := n0_; have BK66 := n1_; have BK65 := n2_; have BK68 := n3_; have HB := n4_; clear n0_ n1_ n2_ n3_ n4_; (try clear hb); (try clear hb2); (try clear hk); (try clear hi); (try clear ho0); have hnb40 := NB400_394.out; have hnc40 := NB394_400.out; have hnb41 := NB400_395.out; have hnc41 := NB395_400.out; obtain ⟨hcz42_0, hcz42_1, hcz42_2, hcz42_3, hfz42_0, hfz42_1, hfz42_2, hfz42_3⟩ := Lv.blks4 BK68.out; have p38 : 0 ≤ (0 : Int) := (by omega); have q38 : (0 : Int) < ((t69.length : Int) : Int) := of_decide_eq_true za; have qi38 : (0 < t69.length) = True := eq_true (by omega); obtain ⟨go38, co38, eo38, gb38, gl38, cl38, HG38⟩ := Kd.R_form HO71.out (by omega); (first | cases eo38 | (injection eo38 with ea_ en_ ec_; (first | subst ea_ | (injection ea_ with ea_; subst ea_)); subst ec_; clear en_)); have GB38 := Aside0.mk gb38; have GG38 := Aside0.mk HG38; clear gb38 gl38 HG38; obtain ⟨ce38, hcl38, hM38, hcc38, hfr38⟩ := Kd.R_elem HO71.out z51 (0 : Int) p38 q38; obtain rfl := k51_openM hM38; have hx38_0 : w39.cell? ⟨go38, (0 : Int).toNat * 4, none⟩ = some (.int .i64 ((rd_T51 t69 0).f0)) := hcc38 0 _ rfl; have hx38_1 : w39.cell? ⟨go38, (0 : Int).toNat * 4 + 1, none⟩ = some (.int .i64 ((rd_T51 t69 0).f1)) := hcc38 1 _ rfl; have hx38_2 : w39.cell? ⟨go38, (0 : Int).toNat * 4 + 2, none⟩ = some (.bool ((rd_T51 t69 0).f2)) := hcc38 2 _ rfl; have hx38_3 : w39.cell? ⟨go38, (0 : Int).toNat * 4 + 3, none⟩ = some (.int .i64 ((rd_T51 t69 0).f3)) := hcc38 3 _ rfl; have hf38_0 : w39.frozen? ⟨go38, (0 : Int).toNat * 4, none⟩ = false := hfr38 0; have hf38_1 : w39.frozen? ⟨go38, (0 : Int).toNat * 4 + 1, none⟩ = false := hfr38 1; have hf38_2 : w39.frozen? ⟨go38, (0 : Int).toNat * 4 + 2, none⟩ = false := hfr38 2; have hf38_3 : w39.frozen? ⟨go38, (0 : Int).toNat * 4 + 3, none⟩ = false := hfr38 3; clear hcl38 hcc38 hfr38; (try clear hM38); (try rw [show ((0 : Int)).toNat = 0 from rfl] at hx38_0); (try simp only [Nat.reduceMul, Nat.zero_mul, Nat.zero_add, Nat.reduceAdd] at hx38_0); (try rw [show ((0 : Int)).toNat = 0 from rfl] at hf38_0); (try simp only [Nat.reduceMul, Nat.zero_mul, Nat.zero_add, Nat.reduceAdd] at hf38_0); (try rw [show ((0 : Int)).toNat = 0 from rfl] at hx38_1); (try simp only [Nat.reduceMul, Nat.zero_mul, Nat.zero_add, Nat.reduceAdd] at hx38_1); (try rw [show ((0 : Int)).toNat = 0 from rfl] at hf38_1); (try simp only [Nat.reduceMul, Nat.zero_mul, Nat.zero_add, Nat.reduceAdd] at hf38_1); (try rw [show ((0 : Int)).toNat = 0 from rfl] at hx38_2); (try simp only [Nat.reduceMul, Nat.zero_mul, Nat.zero_add, Nat.reduceAdd] at hx38_2); (try rw [show ((0 : Int)).toNat = 0 from rfl] at hf38_2); (try simp only [Nat.reduceMul, Nat.zero_mul, Nat.zero_add, Nat.reduceAdd] at hf38_2); (try rw [show ((0 : Int)).toNat = 0 from rfl] at hx38_3); (try simp only [Nat.reduceMul, Nat.zero_mul, Nat.zero_add, Nat.reduceAdd] at hx38_3); (try rw [show ((0 : Int)).toNat = 0 from rfl] at hf38_3); (try simp only [Nat.reduceMul, Nat.zero_mul, Nat.zero_add, Nat.reduceAdd] at hf38_3); replace p38 := eq_true p38; replace q38 := eq_true q38; have n_ := Aside0.mk (Kd.R_mono (ok' := (fun k_ => k_ ≠ gb68)) HO71.out (fun k_ hk => hk.2)); clear HO71; have HO71 := n_; clear n_; have HX43 := Aside0.mk (show Kd.R k51 51 w39 w.heap.size (fun k_ => k_ ≠ gb68) (.slice (some ⟨go38, 0, none⟩) t69.length co38) t69 from (by (with_reducible repeat (first | apply Kd.R_alloc | apply Kd.R_drewN | apply Kd.R_drew)); exact HO71.out)); obtain ⟨ce43, hcl43, hM43, hcc43, hfr43⟩ := Kd.R_elem HX43.out z51 (0 : Int) (by omega) (by have h_ : (0 : Int) < ((t69.length : Int) : Int) := of_decide_eq_true za; first | exact h_ | (have e_ := (Kd.R_reads' HO71.out).1; omega) | simpa using h_); obtain rfl := k51_openM hM43; have HP43 := Kd.R_seg HX43.out (0 : Int) (by omega) (by have h_ : (0 : Int) < ((t69.length : Int) : Int) := of_decide_eq_true za; first | exact h_ | (have e_ := (Kd.R_reads' HO71.out).1; omega) | simpa using h_) (seg := [.int .i64 a1_1, .int .i64 0, .bool a2, .int .i64 a3]) (j := 0) hcl43 hcc43 (show 4 ≤ 4 from by decide) (x' := (⟨a1_1, 0, a2, a3⟩ : S51)) (k51_mkM _ _ _ (⟨a1_1, 0, a2, a3⟩ : S51) ) (fun _ hk => hk); have hx43_0 := hcc43 0 _ rfl; (try simp only [show (k51).sz = 4 from rfl, Nat.mul_one, Nat.add_zero] at hx43_0); (try rw [show ((0 : Int)).toNat = 0 from rfl] at hx43_0); (try simp only [Nat.reduceMul, Nat.zero_mul, Nat.zero_add, Nat.reduceAdd] at hx43_0); have hf43_0 := hfr43 0; (try simp only [show (k51).sz = 4 from rfl, Nat.mul_one, Nat.add_zero] at hf43_0); (try rw [show ((0 : Int)).toNat = 0 from rfl] at hf43_0); (try simp only [Nat.reduceMul, Nat.zero_mul, Nat.zero_add, Nat.reduceAdd] at hf43_0); have hx43_1 := hcc43 1 _ rfl; (try simp only [show (k51).sz = 4 from rfl, Nat.mul_one, Nat.add_zero] at hx43_1); (try rw [show ((0 : Int)).toNat = 0 from rfl] at hx43_1); (try simp only [Nat.reduceMul, Nat.zero_mul, Nat.zero_add, Nat.reduceAdd] at hx43_1); have hf43_1 := hfr43 1; (try simp only [show (k51).sz = 4 from rfl, Nat.mul_one, Nat.add_zero] at hf43_1); (try rw [show ((0 : Int)).toNat = 0 from rfl] at hf43_1); (try simp only [Nat.reduceMul, Nat.zero_mul, Nat.zero_add, Nat.reduceAdd] at hf43_1); have hx43_2 := hcc43 2 _ rfl; (try simp only [show (k51).sz = 4 from rfl, Nat.mul_one, Nat.add_zero] at hx43_2); (try rw [show ((0 : Int)).toNat = 0 from rfl] at hx43_2); (try simp only [Nat.reduceMul, Nat.zero_mul, Nat.zero_add, Nat.reduceAdd] at hx43_2); have hf43_2 := hfr43 2; (try simp only [show (k51).sz = 4 from rfl, Nat.mul_one, Nat.add_zero] at hf43_2); (try rw [show ((0 : Int)).toNat = 0 from rfl] at hf43_2); (try simp only [Nat.reduceMul, Nat.zero_mul, Nat.zero_add, Nat.reduceAdd] at hf43_2); have hx43_3 := hcc43 3 _ rfl; (try simp only [show (k51).sz = 4 from rfl, Nat.mul_one, Nat.add_zero] at hx43_3); (try rw [show ((0 : Int)).toNat = 0 from rfl] at hx43_3); (try simp only [Nat.reduceMul, Nat.zero_mul, Nat.zero_add, Nat.reduceAdd] at hx43_3); have hf43_3 := hfr43 3; (try simp only [show (k51).sz = 4 from rfl, Nat.mul_one, Nat.add_zero] at hf43_3); (try rw [show ((0 : Int)).toNat = 0 from rfl] at hf43_3); (try simp only [Nat.reduceMul, Nat.zero_mul, Nat.zero_add, Nat.reduceAdd] at hf43_3); clear hcl43 hcc43 hfr43; (try clear hM43)) | ((with_reducible refine gate_store (t := 51) (p := 54) rfl ?_); refine store_event (t := 51) (p := 54) (v := ?vo_w44) (w1 := ((((w39.setCell ⟨go38, 0, none⟩ (.int .i64 a1_1)).setCell ⟨go38, 1, none⟩ (.int .i64 0)).setCell ⟨go38, 2, none⟩ (.bool a2)).setCell ⟨go38, 3, none⟩ (.int .i64 a3))) ?hg ?ho ?hn ?hr ?_; (case ho => rfl); (case hg => rfl); (case hn => rfl); (case hr => first | (go_simp; done) | (go_simp; rfl)); intro w44 hw; have hg : w39.grownBy w44 (some go38) := (by rw [hw]; exact HP43.2); have hp_ : Kd.R k51 51 w44 w.heap.size (fun k_ => k_ ≠ gb68) (.slice (some ⟨go38, 0, none⟩) t69.length co38) y76 := (by rw [hw, Ny76.out]; exact HP43.1); clear HP43; have n0_ := Aside0.mk (blk_grown (g := gb66) (o := .cells #[.int .i64 a1_0, .int .i64 a1_1] 32 (0, 0)) zk hg (Kd.R_ne HO71.out BK66.out (by decide))); have n1_ := Aside0.mk (blk_grown (g := gb65) (o := .cells #[.int .i64 0, .slice none 0 0] 28 (0, 0)) zk hg (Kd.R_ne HO71.out BK65.out (by decide))); have n2_ := Aside0.mk (blk_grown (g := gb68) (o := .cells #[.int .i64 a1_1, .int .i64 0, .bool a2, .int .i64 a3] 51 (0, 0)) zk hg (Kd.R_away HO71.out (fun _ hk => hk))); have n3_ := Aside0.mk (hp_); have n4_ := Aside0.mk ((by rw [hw]; exact below_set (below_set (below_set (below_set (HB.out) GB38.out) GB38.out) GB38.out) GB38.out : Below w.heap.size w w44)); clear BK66; clear BK65; clear BK68; clear HO71; clear HB; have BK66 := n0_; have BK65 := n1_; have BK68 := n2_; have HO71 := n3_; have HB := n4_; clear n0_ n1_ n2_ n3_ n4_; clear hg hw hp_; have hnb45 := NB395_394.out; have hnc45 := NB394_395.out; obtain ⟨hcz46_0, hcz46_1, hfz46_0, hfz46_1⟩ := Lv.blks2 BK65.out))
        refine bodyPost_ret (results_cell_row rfl _ _ gb65 28 #[.int .i64 0, .slice (some ⟨go38, 0, none⟩) t69.length co38] (0, 0) _ rfl (by (with_reducible repeat (first | refine blk_drewN ?_ _ | refine blk_drew ?_ | refine blk_alloc ?_ _)); refine blk_put (cs := #[.int .i64 0, .slice none 0 0]) ?_ 1 _ rfl; (with_reducible repeat (first | refine blk_drewN ?_ _ | refine blk_drew ?_ | refine blk_alloc ?_ _)); refine blk_put (cs := #[.int .i64 0, .slice none 0 0]) ?_ 0 _ rfl; (with_reducible repeat (first | refine blk_drewN ?_ _ | refine blk_drew ?_ | refine blk_alloc ?_ _)); exact BK65.out) Try.underlying28 rfl (by kernel_rfl)) rfl ?_
        exact ⟨_, ze, by (with_reducible repeat (first | apply Kd.R_alloc | apply Kd.R_drewN | apply Kd.R_drew)); exact Kd.R_mono (Kd.R_far (p := ⟨gb65, 1, none⟩) (Kd.R_far (p := ⟨gb65, 0, none⟩) (Kd.R_types HO71.out BK65.out (by decide)) (fun _ hk => hk.2) (.int .i64 0)) (fun _ hk => hk.2) (.slice (some ⟨go38, 0, none⟩) t69.length co38)) (fun _ hk => trivial), zb⟩
       rw [if_neg c37] at H
       exact absurd H (by simp)
      replace c35 := Bool.eq_false_iff.mpr c35
      subst c35
      have H1 : (if (l0.length : Int) = 12 then (some (2, ([] : List (S51)))) else ((some (([(⟨a1_1, 0, a2, a3⟩ : S51)] : List (S51)) : List (S51))).bind fun y70 => (if y70.length + l0.length < 4398046511104 then (some (0, (y70 ++ l0))) else (none)))) = some (r1, r2) := by rw [if_neg (show ¬ (false = true) by decide)] at H; exact H
      clear H
      have H := H1
      clear H1
      by_cases c47 : (l0.length : Int) = 12
      ·rw [if_pos c47] at H
       have c47b0 : ((l0.length : Int) == 12) = true := beq_iff_eq.mpr c47
       have c47b1 : ((l0.length : Int) != 12) = false := bne_eq_false_iff_eq.mpr c47
       clear c47
       simp only [Option.some.injEq, Prod.mk.injEq] at H
       obtain ⟨rfl, rfl⟩ := H
       have hnb48 := NB395_394.out
       have hnc48 := NB394_395.out
       have hnb49 := NB395_400.out
       have hnc49 := NB400_395.out
       obtain ⟨hcz50_0, hcz50_1, hfz50_0, hfz50_1⟩ := Lv.blks2 BK65.out
       go_wp2
       refine bodyPost_ret (results_cell_row rfl _ _ gb65 28 #[.int .i64 2, .slice none 0 0] (0, 0) _ rfl (by (with_reducible repeat (first | refine blk_drewN ?_ _ | refine blk_drew ?_ | refine blk_alloc ?_ _)); refine blk_put (cs := #[.int .i64 2, .slice none 0 0]) ?_ 1 _ rfl; (with_reducible repeat (first | refine blk_drewN ?_ _ | refine blk_drew ?_ | refine blk_alloc ?_ _)); refine blk_put (cs := #[.int .i64 0, .slice none 0 0]) ?_ 0 _ rfl; (with_reducible repeat (first | refine blk_drewN ?_ _ | refine blk_drew ?_ | refine blk_alloc ?_ _)); exact BK65.out) Try.underlying28 rfl (by kernel_rfl)) rfl ?_
       exact ⟨_, ze, by first | exact Kd.R_nil _ _ _ _ _ | exact Kd.N_nil _ _ _ _ _ | exact Kd.V_nil _ _ _ _ _ | exact Kd.Q_nil _ _ _ _ _ | exact Kd.S_nil _ _ _ _ _, zb⟩
      rw [if_neg c47] at H
      have c47b0 : ((l0.length : Int) == 12) = false := beq_eq_false_iff_ne.mpr c47
      have c47b1 : ((l0.length : Int) != 12) = true := bne_iff_ne.mpr c47
      obtain ⟨y70, hy70⟩ : ∃ y_ : List (S51), y_ = (([(⟨a1_1, 0, a2, a3⟩ : S51)] : List (S51))) := ⟨_, rfl⟩
      replace H : (if y70.length + l0.length < 4398046511104 then (some (0, (y70 ++ l0))) else (none)) = some (r1, r2) := by first | (rw [hy70]; with_reducible exact H) | (have H2_ := (Option.bind_some _ _).symm.trans H; rw [hy70]; with_reducible exact H2_) | (have H2_ := (Option.bind_some _ _).symm.trans H; with_reducible exact H2_) | with_reducible exact H | (rw [hy70]; exact H) | exact H
      have Ny70 := Aside0.mk hy70
      clear hy70
      by_cases c51 : y70.length + l0.length < 4398046511104
      ·rw [if_pos c51] at H
       have LMc51 := Aside0.mk c51
       clear c51
       obtain ⟨y75, hy75⟩ : ∃ y_ : List (S51), y_ = (y70 ++ l0) := ⟨_, rfl⟩
       replace H : (some (0, y75)) = some (r1, r2) := by first | (rw [hy75]; with_reducible exact H) | (have H2_ := (Option.bind_some _ _).symm.trans H; rw [hy75]; with_reducible exact H2_) | (have H2_ := (Option.bind_some _ _).symm.trans H; with_reducible exact H2_) | with_reducible exact H | (rw [hy75]; exact H) | exact H
       have Ny75 := Aside0.mk hy75
       clear hy75
       simp only [Option.some.injEq, Prod.mk.injEq] at H
       obtain ⟨rfl, rfl⟩ := H
       have hnb52 := NB400_394.out
       have hnc52 := NB394_400.out
       have hnb53 := NB400_395.out
       have hnc53 := NB395_400.out
       obtain ⟨hcz54_0, hcz54_1, hcz54_2, hcz54_3, hfz54_0, hfz54_1, hfz54_2, hfz54_3⟩ := Lv.blks4 BK68.out
       go_wp2_with (first | ((with_reducible refine gate_dst (N := 62) rfl ?_); refine Kd.R_lit k51 _ 51 ?hg (N := 62) ?hd (xs := ([(⟨a1_1, 0, a2, a3⟩ : S51)] : List (S51))) (inner := [.int .i64 a1_1, .int .i64 0, .bool a2, .int .i64 a3]) (ok := fun _ => True) (okp := fun _ => True) ?hr ?hp (fun _ hk => hk) trivial (Below.refl _ _) (Nat.le_refl _) (by simp) ?_; (case hd => rfl); (case hg => rfl); (case hr => first | (go_simp; done) | (go_simp; rfl)); (case hp => exact (Reps.c4 (show Kd.M k51 _ _ _ (⟨a1_1, 0, a2, a3⟩ : S51) [.int .i64 a1_1, .int .i64 0, .bool a2, .int .i64 a3] from (k51_mkM _ _ _ (⟨a1_1, 0, a2, a3⟩ : S51) )) (Reps.none _ _))); intro v84 w55 ho56 hb hg_ hnew_; clear hg_ hnew_; (first | rw [← Ny70.out] at ho56 | (simp only [Int.reduceToNat] at ho56; rw [← Ny70.out] at ho56)); have n0_ := Aside0.mk (Kd.R_lower (Kd.R_newB ho56 (g := gb68) (o := .cells #[.int .i64 a1_1, .int .i64 0, .bool a2, .int .i64 a3] 51 (0, 0)) zk) (below_size zb)); have n1_ := Aside0.mk (blk_below (g := gb66) (o := .cells #[.int .i64 a1_0, .int .i64 a1_1] 32 (0, 0)) zk hb); have n2_ := Aside0.mk (blk_below (g := gb65) (o := .cells #[.int .i64 0, .slice none 0 0] 28 (0, 0)) zk hb); have n3_ := Aside0.mk (blk_below (g := gb68) (o := .cells #[.int .i64 a1_1, .int .i64 0, .bool a2, .int .i64 a3] 51 (0, 0)) zk hb); have n4_ := Aside0.mk (below_step zb hb); clear BK66; clear BK65; clear BK68; clear HB; have HO78 := n0_; have BK66 := n1_; have BK65 := n2_; have BK68 := n3_; have HB := n4_; clear n0_ n1_ n2_ n3_ n4_; clear hb ho56) | ((with_reducible refine gate_builtin (b := .append) (xs := #[.tmp 62, .tmp 63]) rfl ?_); at_builtin; refine Kd.R_append_rows k51 (w0 := w) w.heap.size rfl (.tmp 62) (.tmp 63) 24 51 (.agg #[(.int .i64 0), (.int .i64 0), (.bool false), (.int .i64 0)]) 32 rfl Try.underlying24 info51 rfl (by decide) (by omega) v84 y70 l0 _ _ _ (fun k_ => k_ ≠ gb68) (fun _ => False) rfl rfl ?aO ?aR (fun _ _ h => h) (fun _ h => h.elim) ?aF ?aB ?aS ?aL ?_; (case aR => repeat (first | exact (Kd.C_below HR0.out HB.out) | (with_reducible first | refine Kd.C_alloc ?_ _ | refine Kd.C_drewN ?_ _ | refine Kd.C_drew ?_))); (case aB => exact zb); (case aF => exact (fun k_ hk => Kd.freshB (g := gb68) (o := .cells #[.int .i64 a1_1, .int .i64 0, .bool a2, .int .i64 a3] 51 (0, 0)) zk k_ hk)); (case aO => exact (by (with_reducible repeat (first | apply Kd.R_alloc | apply Kd.R_drewN | apply Kd.R_drew)); exact Kd.R_mono HO78.out (fun _ hk => hk.2))); (case aS => exact (below_size zb)); (case aL => have := LMc51.out; omega); intro v86 w57 ho hb hg hat; rw [← Ny75.out] at ho; have n0_ := Aside0.mk (blk_grown (g := gb66) (o := .cells #[.int .i64 a1_0, .int .i64 a1_1] 32 (0, 0)) zk hg (Kd.R_ne HO78.out BK66.out (by decide))); have n1_ := Aside0.mk (blk_grown (g := gb65) (o := .cells #[.int .i64 0, .slice none 0 0] 28 (0, 0)) zk hg (Kd.R_ne HO78.out BK65.out (by decide))); have n2_ := Aside0.mk (blk_grown (g := gb68) (o := .cells #[.int .i64 a1_1, .int .i64 0, .bool a2, .int .i64 a3] 51 (0, 0)) zk hg (Kd.R_away HO78.out (fun _ hk => hk.2))); have n3_ := Aside0.mk (hb); have n4_ := Aside0.mk (ho); clear BK66; clear BK65; clear BK68; clear HB; clear HO78; have BK66 := n0_; have BK65 := n1_; have BK68 := n2_; have HB := n3_; have HO83 := n4_; clear n0_ n1_ n2_ n3_ n4_; clear ho hb hg hat; obtain ⟨Ao58, co58, eo58⟩ := Kd.R_slice HO83.out; subst eo58; have hnb59 := NB395_394.out; have hnc59 := NB394_395.out; obtain ⟨hcz60_0, hcz60_1, hfz60_0, hfz60_1⟩ := Lv.blks2 BK65.out))
       refine bodyPost_ret (results_cell_row rfl _ _ gb65 28 #[.int .i64 0, .slice Ao58 y75.length co58] (0, 0) _ rfl (by (with_reducible repeat (first | refine blk_drewN ?_ _ | refine blk_drew ?_ | refine blk_alloc ?_ _)); refine blk_put (cs := #[.int .i64 0, .slice none 0 0]) ?_ 1 _ rfl; (with_reducible repeat (first | refine blk_drewN ?_ _ | refine blk_drew ?_ | refine blk_alloc ?_ _)); refine blk_put (cs := #[.int .i64 0, .slice none 0 0]) ?_ 0 _ rfl; (with_reducible repeat (first | refine blk_drewN ?_ _ | refine blk_drew ?_ | refine blk_alloc ?_ _)); exact BK65.out) Try.underlying28 rfl (by kernel_rfl)) rfl ?_
       exact ⟨_, ze, by (with_reducible repeat (first | apply Kd.R_alloc | apply Kd.R_drewN | apply Kd.R_drew)); exact Kd.R_mono (Kd.R_far (p := ⟨gb65, 1, none⟩) (Kd.R_far (p := ⟨gb65, 0, none⟩) (Kd.R_types HO83.out BK65.out (by decide)) (fun _ hk => hk.2) (.int .i64 0)) (fun _ hk => hk.2) (.slice Ao58 y75.length co58)) (fun _ hk => trivial), zb⟩
      rw [if_neg c51] at H
      exact absurd H (by simp)
   rw [if_neg c25] at H
   have c25b0 : (x9_5 == 0) = false := beq_eq_false_iff_ne.mpr c25
   have c25b1 : (x9_5 != 0) = true := bne_iff_ne.mpr c25
   simp only [Option.some.injEq, Prod.mk.injEq] at H
   obtain ⟨rfl, rfl⟩ := H
   have hnb61 := NB395_394.out
   have hnc61 := NB394_395.out
   obtain ⟨hcz62_0, hcz62_1, hfz62_0, hfz62_1⟩ := Lv.blks2 BK65.out
   go_wp2
   refine bodyPost_ret (results_cell_row rfl _ _ gb65 28 #[.int .i64 x9_5, .slice none 0 0] (0, 0) _ rfl (by (with_reducible repeat (first | refine blk_drewN ?_ _ | refine blk_drew ?_ | refine blk_alloc ?_ _)); refine blk_put (cs := #[.int .i64 x9_5, .slice none 0 0]) ?_ 1 _ rfl; (with_reducible repeat (first | refine blk_drewN ?_ _ | refine blk_drew ?_ | refine blk_alloc ?_ _)); refine blk_put (cs := #[.int .i64 0, .slice none 0 0]) ?_ 0 _ rfl; (with_reducible repeat (first | refine blk_drewN ?_ _ | refine blk_drew ?_ | refine blk_alloc ?_ _)); exact BK65.out) Try.underlying28 rfl (by kernel_rfl)) rfl ?_
   exact ⟨_, ze, by first | exact Kd.R_nil _ _ _ _ _ | exact Kd.N_nil _ _ _ _ _ | exact Kd.V_nil _ _ _ _ _ | exact Kd.Q_nil _ _ _ _ _ | exact Kd.S_nil _ _ _ _ _, zb⟩
set_option maxHeartbeats 8000000 in
set_option maxRecDepth 100000 in
theorem spec_l5View.calls (a0_0 : Int) (a0_1 : Int) (r : Bool) (w : World) (h : spec_l5View.f a0_0 a0_1 = some r) :
 Calls Try.prog 50 #[.agg #[.int .i64 a0_0, .int .i64 a0_1]] w fun e w' => e = .returned (.bool r) ∧ Below w.heap.size w w' := by
 have hu32 := Try.underlying32
 have HB := Aside0.mk (Below.refl w.heap.size w)
 have H : ((spec_l1In.f a0_0 0 1000000).bind fun t11 => (if t11 = true then ((spec_l1In.f a0_1 0 999).bind fun t10 => (some t10)) else (some false))) = some r := h
 clear h
 replace H := Option.bind_eq_some_iff.mp H
 obtain ⟨t11, A20, H⟩ := H
 replace H : (if t11 = true then ((spec_l1In.f a0_1 0 999).bind fun t10 => (some t10)) else (some false)) = some r := H
 have A2 := Aside0.mk A20
 clear A20
 by_cases c3 : t11 = true
 ·subst c3
  have H1 : ((spec_l1In.f a0_1 0 999).bind fun t10 => (some t10)) = some r := by rw [if_pos rfl] at H; exact H
  clear H
  have H := H1
  clear H1
  replace H := Option.bind_eq_some_iff.mp H
  obtain ⟨t10, A40, H⟩ := H
  replace H : (some t10) = some r := H
  have A4 := Aside0.mk A40
  clear A40
  obtain rfl := Option.some.inj H
  go_enter Try.func50, Try.ntmps50
  go_wp2_with (first | ((with_reducible refine gate_dst (N := 1) rfl ?_); refine box_event ?hg (N := 1) ?hd (cs := #[.int .i64 a0_0, .int .i64 a0_1]) (t := 32) ?hr ?_; (case hd => rfl); (case hg => rfl); (case hr => first | (go_simp; done) | (go_simp; rfl)); intro gb9 hg w5 hbox hb; have n0_ := Aside0.mk (below_step zb hb); have n1_ := Aside0.mk (hbox); have n2_ := Aside0.mk ((by rw [hg]; exact (below_size zb) : w.heap.size ≤ gb9)); have n3_ := n2_; clear HB; have HB := n0_; have BK9 := n1_; have GW9 := n2_; have GE9 := n3_; clear n0_ n1_ n2_ n3_; clear hb hbox hg; obtain ⟨hcz6_0, hcz6_1, hfz6_0, hfz6_1⟩ := Lv.blks2 BK9.out) | ((with_reducible refine gate_callee (f := 26) rfl ?_); refine goesL_ (some 5) rfl rfl Try.func26 (by kernel_rfl) rfl #[.int .i64 a0_0, .int .i64 0, .int .i64 1000000] rfl zm ?_; (with_reducible refine (spec_l1In.calls a0_0 0 1000000 true _ A2.out).mono ?_); rintro e w' ⟨rfl, ⟨nd, rfl⟩⟩; refine ⟨_, rfl, ?_⟩) | (go_at_call 26; (with_reducible refine (spec_l1In.calls a0_1 0 999 t10 _ A4.out).mono ?_); rintro e w' ⟨rfl, ⟨nd, rfl⟩⟩))
  go_ret
  exact ⟨ze, zb⟩
 replace c3 := Bool.eq_false_iff.mpr c3
 subst c3
 have H1 : (some false) = some r := by rw [if_neg (show ¬ (false = true) by decide)] at H; exact H
 clear H
 have H := H1
 clear H1
 obtain rfl := Option.some.inj H
 go_enter Try.func50, Try.ntmps50
 go_wp2_with (first | ((with_reducible refine gate_dst (N := 1) rfl ?_); refine box_event ?hg (N := 1) ?hd (cs := #[.int .i64 a0_0, .int .i64 a0_1]) (t := 32) ?hr ?_; (case hd => rfl); (case hg => rfl); (case hr => first | (go_simp; done) | (go_simp; rfl)); intro gb9 hg w7 hbox hb; have n0_ := Aside0.mk (below_step zb hb); have n1_ := Aside0.mk (hbox); have n2_ := Aside0.mk ((by rw [hg]; exact (below_size zb) : w.heap.size ≤ gb9)); have n3_ := n2_; clear HB; have HB := n0_; have BK9 := n1_; have GW9 := n2_; have GE9 := n3_; clear n0_ n1_ n2_ n3_; clear hb hbox hg; obtain ⟨hcz8_0, hcz8_1, hfz8_0, hfz8_1⟩ := Lv.blks2 BK9.out) | ((with_reducible refine gate_callee (f := 26) rfl ?_); refine goesL_ (some 5) rfl rfl Try.func26 (by kernel_rfl) rfl #[.int .i64 a0_0, .int .i64 0, .int .i64 1000000] rfl zm ?_; (with_reducible refine (spec_l1In.calls a0_0 0 1000000 false _ A2.out).mono ?_); rintro e w' ⟨rfl, ⟨nd, rfl⟩⟩; refine ⟨_, rfl, ?_⟩))
 go_ret
 exact ⟨ze, zb⟩
set_option maxHeartbeats 8000000 in
set_option maxRecDepth 100000 in
theorem spec_l5Asked.calls (k : Nat) (A0 : Option Addr) (c0 : Nat) (l0 : List (S51)) (a1_0 : Int) (a1_1 : Int) (r : Int) (w : World) (hr0 : Kd.C k51 w A0 l0.length l0) (hc0 : l0.length ≤ c0) (h : spec_l5Asked.f k l0 a1_0 a1_1 = some r) :
 Calls Try.prog 38 #[.slice A0 l0.length c0, .agg #[.int .i64 a1_0, .int .i64 a1_1]] w fun e w' => e = .returned (.int .i64 r) ∧ Below w.heap.size w w' := by
 have hu32 := Try.underlying32
 have HR0 := Aside0.mk hr0
 have HC0 := Aside0.mk hc0
 clear hr0 hc0
 have HB := Aside0.mk (Below.refl w.heap.size w)
 have H : ((spec_ChainFault.f k l0).bind fun t18 => (if t18 = 0 then ((spec_l5View.f a1_0 a1_1).bind fun t19 => (if t19 = true then (some 0) else (some 3))) else (some t18))) = some r := h
 clear h
 replace H := Option.bind_eq_some_iff.mp H
 obtain ⟨t18, A30, H⟩ := H
 replace H : (if t18 = 0 then ((spec_l5View.f a1_0 a1_1).bind fun t19 => (if t19 = true then (some 0) else (some 3))) else (some t18)) = some r := H
 have A3 := Aside0.mk A30
 clear A30
 by_cases c4 : t18 = 0
 ·rw [if_pos c4] at H
  have c4b0 : (t18 == 0) = true := beq_iff_eq.mpr c4
  have c4b1 : (t18 != 0) = false := bne_eq_false_iff_eq.mpr c4
  clear c4
  replace H := Option.bind_eq_some_iff.mp H
  obtain ⟨t19, A50, H⟩ := H
  replace H : (if t19 = true then (some 0) else (some 3)) = some r := H
  have A5 := Aside0.mk A50
  clear A50
  by_cases c6 : t19 = true
  ·subst c6
   have H1 : (some 0) = some r := by rw [if_pos rfl] at H; exact H
   clear H
   have H := H1
   clear H1
   obtain rfl := Option.some.inj H
   go_enter Try.func38, Try.ntmps38
   go_wp2_with (first | ((with_reducible refine gate_dst (N := 3) rfl ?_); refine box_event ?hg (N := 3) ?hd (cs := #[.int .i64 a1_0, .int .i64 a1_1]) (t := 32) ?hr ?_; (case hd => rfl); (case hg => rfl); (case hr => first | (go_simp; done) | (go_simp; rfl)); intro gb17 hg w7 hbox hb; have n0_ := Aside0.mk (below_step zb hb); have n1_ := Aside0.mk (hbox); have n2_ := Aside0.mk ((by rw [hg]; exact (below_size zb) : w.heap.size ≤ gb17)); have n3_ := n2_; clear HB; have HB := n0_; have BK17 := n1_; have GW17 := n2_; have GE17 := n3_; clear n0_ n1_ n2_ n3_; clear hb hbox hg) | ((with_reducible refine gate_callee (f := 25) rfl ?_); refine goesL_ (some 7) rfl rfl Try.func25 (by kernel_rfl) rfl #[.slice A0 l0.length c0] rfl zm ?_; (with_reducible refine (spec_ChainFault.calls k _ _ l0 t18 _ ?side1 ?side2 A3.out).mono ?_); (case side1 => repeat (first | exact (Kd.C_below HR0.out HB.out) | (with_reducible first | refine Kd.C_alloc ?_ _ | refine Kd.C_drewN ?_ _ | refine Kd.C_drew ?_))); (case side2 => exact HC0.out); rintro e w8 ⟨rfl, hb⟩; refine ⟨_, rfl, ?_⟩; have n0_ := Aside0.mk (blk_below (g := gb17) (o := .cells #[.int .i64 a1_0, .int .i64 a1_1] 32 (0, 0)) zk hb); have n1_ := Aside0.mk (below_step zb hb); clear BK17; clear HB; have BK17 := n0_; have HB := n1_; clear n0_ n1_; (try clear hb); (try clear hb2); (try clear hk); (try clear hi); obtain ⟨hcz9_0, hcz9_1, hfz9_0, hfz9_1⟩ := Lv.blks2 BK17.out) | ((with_reducible refine gate_callee (f := 50) rfl ?_); refine goesL_ (some 12) rfl rfl Try.func50 (by kernel_rfl) rfl #[.agg #[.int .i64 a1_0, .int .i64 a1_1]] rfl zm ?_; (with_reducible refine (spec_l5View.calls a1_0 a1_1 true _ A5.out).mono ?_); rintro e w10 ⟨rfl, hb⟩; refine ⟨_, rfl, ?_⟩; have n0_ := Aside0.mk (blk_below (g := gb17) (o := .cells #[.int .i64 a1_0, .int .i64 a1_1] 32 (0, 0)) zk hb); have n1_ := Aside0.mk (below_step zb hb); clear BK17; clear HB; have BK17 := n0_; have HB := n1_; clear n0_ n1_; (try clear hb); (try clear hb2); (try clear hk); (try clear hi)))
   go_ret
   exact ⟨ze, zb⟩
  replace c6 := Bool.eq_false_iff.mpr c6
  subst c6
  have H1 : (some 3) = some r := by rw [if_neg (show ¬ (false = true) by decide)] at H; exact H
  clear H
  have H := H1
  clear H1
  obtain rfl := Option.some.inj H
  go_enter Try.func38, Try.ntmps38
  go_wp2_with (first | ((with_reducible refine gate_dst (N := 3) rfl ?_); refine box_event ?hg (N := 3) ?hd (cs := #[.int .i64 a1_0, .int .i64 a1_1]) (t := 32) ?hr ?_; (case hd => rfl); (case hg => rfl); (case hr => first | (go_simp; done) | (go_simp; rfl)); intro gb17 hg w11 hbox hb; have n0_ := Aside0.mk (below_step zb hb); have n1_ := Aside0.mk (hbox); have n2_ := Aside0.mk ((by rw [hg]; exact (below_size zb) : w.heap.size ≤ gb17)); have n3_ := n2_; clear HB; have HB := n0_; have BK17 := n1_; have GW17 := n2_; have GE17 := n3_; clear n0_ n1_ n2_ n3_; clear hb hbox hg) | ((with_reducible refine gate_callee (f := 25) rfl ?_); refine goesL_ (some 7) rfl rfl Try.func25 (by kernel_rfl) rfl #[.slice A0 l0.length c0] rfl zm ?_; (with_reducible refine (spec_ChainFault.calls k _ _ l0 t18 _ ?side1 ?side2 A3.out).mono ?_); (case side1 => repeat (first | exact (Kd.C_below HR0.out HB.out) | (with_reducible first | refine Kd.C_alloc ?_ _ | refine Kd.C_drewN ?_ _ | refine Kd.C_drew ?_))); (case side2 => exact HC0.out); rintro e w12 ⟨rfl, hb⟩; refine ⟨_, rfl, ?_⟩; have n0_ := Aside0.mk (blk_below (g := gb17) (o := .cells #[.int .i64 a1_0, .int .i64 a1_1] 32 (0, 0)) zk hb); have n1_ := Aside0.mk (below_step zb hb); clear BK17; clear HB; have BK17 := n0_; have HB := n1_; clear n0_ n1_; (try clear hb); (try clear hb2); (try clear hk); (try clear hi); obtain ⟨hcz13_0, hcz13_1, hfz13_0, hfz13_1⟩ := Lv.blks2 BK17.out) | ((with_reducible refine gate_callee (f := 50) rfl ?_); refine goesL_ (some 12) rfl rfl Try.func50 (by kernel_rfl) rfl #[.agg #[.int .i64 a1_0, .int .i64 a1_1]] rfl zm ?_; (with_reducible refine (spec_l5View.calls a1_0 a1_1 false _ A5.out).mono ?_); rintro e w14 ⟨rfl, hb⟩; refine ⟨_, rfl, ?_⟩; have n0_ := Aside0.mk (blk_below (g := gb17) (o := .cells #[.int .i64 a1_0, .int .i64 a1_1] 32 (0, 0)) zk hb); have n1_ := Aside0.mk (below_step zb hb); clear BK17; clear HB; have BK17 := n0_; have HB := n1_; clear n0_ n1_; (try clear hb); (try clear hb2); (try clear hk); (try clear hi)))
  go_ret
  exact ⟨ze, zb⟩
 rw [if_neg c4] at H
 have c4b0 : (t18 == 0) = false := beq_eq_false_iff_ne.mpr c4
 have c4b1 : (t18 != 0) = true := bne_iff_ne.mpr c4
 obtain rfl := Option.some.inj H
 go_enter Try.func38, Try.ntmps38
 go_wp2_with (first | ((with_reducible refine gate_dst (N := 3) rfl ?_); refine box_event ?hg (N := 3) ?hd (cs := #[.int .i64 a1_0, .int .i64 a1_1]) (t := 32) ?hr ?_; (case hd => rfl); (case hg => rfl); (case hr => first | (go_simp; done) | (go_simp; rfl)); intro gb17 hg w15 hbox hb; have n0_ := Aside0.mk (below_step zb hb); have n1_ := Aside0.mk (hbox); have n2_ := Aside0.mk ((by rw [hg]; exact (below_size zb) : w.heap.size ≤ gb17)); have n3_ := n2_; clear HB; have HB := n0_; have BK17 := n1_; have GW17 := n2_; have GE17 := n3_; clear n0_ n1_ n2_ n3_; clear hb hbox hg) | ((with_reducible refine gate_callee (f := 25) rfl ?_); refine goesL_ (some 7) rfl rfl Try.func25 (by kernel_rfl) rfl #[.slice A0 l0.length c0] rfl zm ?_; (with_reducible refine (spec_ChainFault.calls k _ _ l0 t18 _ ?side1 ?side2 A3.out).mono ?_); (case side1 => repeat (first | exact (Kd.C_below HR0.out HB.out) | (with_reducible first | refine Kd.C_alloc ?_ _ | refine Kd.C_drewN ?_ _ | refine Kd.C_drew ?_))); (case side2 => exact HC0.out); rintro e w16 ⟨rfl, hb⟩; refine ⟨_, rfl, ?_⟩; have n0_ := Aside0.mk (blk_below (g := gb17) (o := .cells #[.int .i64 a1_0, .int .i64 a1_1] 32 (0, 0)) zk hb); have n1_ := Aside0.mk (below_step zb hb); clear BK17; clear HB; have BK17 := n0_; have HB := n1_; clear n0_ n1_; (try clear hb); (try clear hb2); (try clear hk); (try clear hi)))
 go_ret
 exact ⟨ze, zb⟩
set_option maxHeartbeats 8000000 in
set_option maxRecDepth 100000 in
theorem spec_l5May.calls (A0 : Option Addr) (c0 : Nat) (l0 : List (S51)) (a1_0 : Int) (a1_1 : Int) (r : Bool) (w : World) (hr0 : Kd.C k51 w A0 l0.length l0) (hc0 : l0.length ≤ c0) (h : spec_l5May.f l0 a1_0 a1_1 = some r) :
 Calls Try.prog 51 #[.slice A0 l0.length c0, .agg #[.int .i64 a1_0, .int .i64 a1_1]] w fun e w' => e = .returned (.bool r) ∧ Below w.heap.size w w' := by
 have hu32 := Try.underlying32
 have HR0 := Aside0.mk hr0
 have HC0 := Aside0.mk hc0
 clear hr0 hc0
 have HB := Aside0.mk (Below.refl w.heap.size w)
 have H : (if (l0.length : Int) = 0 then (some true) else (if 0 < (l0.length : Int) then (if ((rd_T51 l0 0).f1) = 0 then (some (((rd_T51 l0 0).f0) == a1_1)) else (some (decide (((rd_T51 l0 0).f1) ≤ a1_0)))) else (none))) = some r := h
 clear h
 by_cases c3 : (l0.length : Int) = 0
 ·rw [if_pos c3] at H
  have c3b0 : ((l0.length : Int) == 0) = true := beq_iff_eq.mpr c3
  have c3b1 : ((l0.length : Int) != 0) = false := bne_eq_false_iff_eq.mpr c3
  clear c3
  obtain rfl := Option.some.inj H
  go_enter Try.func51, Try.ntmps51
  go_wp2_with (first | ((with_reducible refine gate_dst (N := 3) rfl ?_); refine box_event ?hg (N := 3) ?hd (cs := #[.int .i64 a1_0, .int .i64 a1_1]) (t := 32) ?hr ?_; (case hd => rfl); (case hg => rfl); (case hr => first | (go_simp; done) | (go_simp; rfl)); intro gb14 hg w4 hbox hb; have n0_ := Aside0.mk (below_step zb hb); have n1_ := Aside0.mk (hbox); have n2_ := Aside0.mk ((by rw [hg]; exact (below_size zb) : w.heap.size ≤ gb14)); have n3_ := n2_; clear HB; have HB := n0_; have BK14 := n1_; have GW14 := n2_; have GE14 := n3_; clear n0_ n1_ n2_ n3_; clear hb hbox hg))
  repeat (go_quiet (first | ((with_reducible refine gate_dst (N := 3) rfl ?_); refine box_event ?hg (N := 3) ?hd (cs := #[.int .i64 a1_0, .int .i64 a1_1]) (t := 32) ?hr ?_; (case hd => rfl); (case hg => rfl); (case hr => first | (go_simp; done) | (go_simp; rfl)); intro gb14 hg w4 hbox hb; have n0_ := Aside0.mk (below_step zb hb); have n1_ := Aside0.mk (hbox); have n2_ := Aside0.mk ((by rw [hg]; exact (below_size zb) : w.heap.size ≤ gb14)); have n3_ := n2_; clear HB; have HB := n0_; have BK14 := n1_; have GW14 := n2_; have GE14 := n3_; clear n0_ n1_ n2_ n3_; clear hb hbox hg)); try go_wp2_with (first | ((with_reducible refine gate_dst (N := 3) rfl ?_); refine box_event ?hg (N := 3) ?hd (cs := #[.int .i64 a1_0, .int .i64 a1_1]) (t := 32) ?hr ?_; (case hd => rfl); (case hg => rfl); (case hr => first | (go_simp; done) | (go_simp; rfl)); intro gb14 hg w4 hbox hb; have n0_ := Aside0.mk (below_step zb hb); have n1_ := Aside0.mk (hbox); have n2_ := Aside0.mk ((by rw [hg]; exact (below_size zb) : w.heap.size ≤ gb14)); have n3_ := n2_; clear HB; have HB := n0_; have BK14 := n1_; have GW14 := n2_; have GE14 := n3_; clear n0_ n1_ n2_ n3_; clear hb hbox hg)))
  go_ret
  exact ⟨ze, zb⟩
 rw [if_neg c3] at H
 have c3b0 : ((l0.length : Int) == 0) = false := beq_eq_false_iff_ne.mpr c3
 have c3b1 : ((l0.length : Int) != 0) = true := bne_iff_ne.mpr c3
 have c3b2 : ¬ (l0 = []) := fun h_ => c3 (by rw [h_]; rfl)
 by_cases c5 : 0 < (l0.length : Int)
 ·rw [if_pos c5] at H
  have c5b0 : decide (0 < (l0.length : Int)) = true := decide_eq_true c5
  have c5b1 : decide (0 < l0.length) = true := decide_eq_true (by omega)
  clear c5
  by_cases c6 : ((rd_T51 l0 0).f1) = 0
  ·rw [if_pos c6] at H
   have c6b0 : (((rd_T51 l0 0).f1) == 0) = true := beq_iff_eq.mpr c6
   have c6b1 : (((rd_T51 l0 0).f1) != 0) = false := bne_eq_false_iff_eq.mpr c6
   clear c6
   obtain rfl := Option.some.inj H
   go_enter Try.func51, Try.ntmps51
   go_wp2_with (first | ((with_reducible refine gate_dst (N := 3) rfl ?_); refine box_event ?hg (N := 3) ?hd (cs := #[.int .i64 a1_0, .int .i64 a1_1]) (t := 32) ?hr ?_; (case hd => rfl); (case hg => rfl); (case hr => first | (go_simp; done) | (go_simp; rfl)); intro gb14 hg w7 hbox hb; have n0_ := Aside0.mk (below_step zb hb); have n1_ := Aside0.mk (hbox); have n2_ := Aside0.mk ((by rw [hg]; exact (below_size zb) : w.heap.size ≤ gb14)); have n3_ := n2_; clear HB; have HB := n0_; have BK14 := n1_; have GW14 := n2_; have GE14 := n3_; clear n0_ n1_ n2_ n3_; clear hb hbox hg; have p419 : 0 ≤ (0 : Int) := (by omega); have q11 : 0 < (l0.length : Int) := of_decide_eq_true za; obtain ⟨ad11, e419, hx11_0, hx11_1, hx11_2, hx11_3⟩ := at_T51 HR0.out 0 p419 q11; cases e419; have qi419 : (0 < l0.length) = True := eq_true (by omega); (try rw [show ((0 : Int)).toNat = 0 from rfl] at hx11_0); (try rw [show 0 * 4 = 0 from rfl] at hx11_0); (try rw [Addr.add_zero'] at hx11_0); (try rw [show ((0 : Int)).toNat = 0 from rfl] at hx11_1); (try rw [show 0 * 4 = 0 from rfl] at hx11_1); (try rw [Addr.add_zero'] at hx11_1); (try rw [show ((0 : Int)).toNat = 0 from rfl] at hx11_2); (try rw [show 0 * 4 = 0 from rfl] at hx11_2); (try rw [Addr.add_zero'] at hx11_2); (try rw [show ((0 : Int)).toNat = 0 from rfl] at hx11_3); (try rw [show 0 * 4 = 0 from rfl] at hx11_3); (try rw [Addr.add_zero'] at hx11_3); replace hx11_0 := (HB.out.cell (World.block_lt_of_cell? w _ hx11_0)).trans hx11_0; replace hx11_1 := (HB.out.cell (World.block_lt_of_cell? w _ hx11_1)).trans hx11_1; replace hx11_2 := (HB.out.cell (World.block_lt_of_cell? w _ hx11_2)).trans hx11_2; replace hx11_3 := (HB.out.cell (World.block_lt_of_cell? w _ hx11_3)).trans hx11_3; replace p419 := eq_true p419; replace q11 := eq_true q11; have p420 : 0 ≤ (0 : Int) := (by omega); have q12 : 0 < (l0.length : Int) := of_decide_eq_true za; obtain ⟨ad12, e420, hx12_0, hx12_1, hx12_2, hx12_3⟩ := at_T51 HR0.out 0 p420 q12; obtain rfl : ad11 = ad12 := (by injection e420); have qi420 : (0 < l0.length) = True := eq_true (by omega); (try rw [show ((0 : Int)).toNat = 0 from rfl] at hx12_0); (try rw [show 0 * 4 = 0 from rfl] at hx12_0); (try rw [Addr.add_zero'] at hx12_0); (try rw [show ((0 : Int)).toNat = 0 from rfl] at hx12_1); (try rw [show 0 * 4 = 0 from rfl] at hx12_1); (try rw [Addr.add_zero'] at hx12_1); (try rw [show ((0 : Int)).toNat = 0 from rfl] at hx12_2); (try rw [show 0 * 4 = 0 from rfl] at hx12_2); (try rw [Addr.add_zero'] at hx12_2); (try rw [show ((0 : Int)).toNat = 0 from rfl] at hx12_3); (try rw [show 0 * 4 = 0 from rfl] at hx12_3); (try rw [Addr.add_zero'] at hx12_3); replace hx12_0 := (HB.out.cell (World.block_lt_of_cell? w _ hx12_0)).trans hx12_0; replace hx12_1 := (HB.out.cell (World.block_lt_of_cell? w _ hx12_1)).trans hx12_1; replace hx12_2 := (HB.out.cell (World.block_lt_of_cell? w _ hx12_2)).trans hx12_2; replace hx12_3 := (HB.out.cell (World.block_lt_of_cell? w _ hx12_3)).trans hx12_3; replace p420 := eq_true p420; replace q12 := eq_true q12; obtain ⟨hcz8_0, hcz8_1, hfz8_0, hfz8_1⟩ := Lv.blks2 BK14.out))
   repeat (go_quiet (first | ((with_reducible refine gate_dst (N := 3) rfl ?_); refine box_event ?hg (N := 3) ?hd (cs := #[.int .i64 a1_0, .int .i64 a1_1]) (t := 32) ?hr ?_; (case hd => rfl); (case hg => rfl); (case hr => first | (go_simp; done) | (go_simp; rfl)); intro gb14 hg w7 hbox hb; have n0_ := Aside0.mk (below_step zb hb); have n1_ := Aside0.mk (hbox); have n2_ := Aside0.mk ((by rw [hg]; exact (below_size zb) : w.heap.size ≤ gb14)); have n3_ := n2_; clear HB; have HB := n0_; have BK14 := n1_; have GW14 := n2_; have GE14 := n3_; clear n0_ n1_ n2_ n3_; clear hb hbox hg; have p419 : 0 ≤ (0 : Int) := (by omega); have q11 : 0 < (l0.length : Int) := of_decide_eq_true za; obtain ⟨ad11, e419, hx11_0, hx11_1, hx11_2, hx11_3⟩ := at_T51 HR0.out 0 p419 q11; cases e419; have qi419 : (0 < l0.length) = True := eq_true (by omega); (try rw [show ((0 : Int)).toNat = 0 from rfl] at hx11_0); (try rw [show 0 * 4 = 0 from rfl] at hx11_0); (try rw [Addr.add_zero'] at hx11_0); (try rw [show ((0 : Int)).toNat = 0 from rfl] at hx11_1); (try rw [show 0 * 4 = 0 from rfl] at hx11_1); (try rw [Addr.add_zero'] at hx11_1); (try rw [show ((0 : Int)).toNat = 0 from rfl] at hx11_2); (try rw [show 0 * 4 = 0 from rfl] at hx11_2); (try rw [Addr.add_zero'] at hx11_2); (try rw [show ((0 : Int)).toNat = 0 from rfl] at hx11_3); (try rw [show 0 * 4 = 0 from rfl] at hx11_3); (try rw [Addr.add_zero'] at hx11_3); replace hx11_0 := (HB.out.cell (World.block_lt_of_cell? w _ hx11_0)).trans hx11_0; replace hx11_1 := (HB.out.cell (World.block_lt_of_cell? w _ hx11_1)).trans hx11_1; replace hx11_2 := (HB.out.cell (World.block_lt_of_cell? w _ hx11_2)).trans hx11_2; replace hx11_3 := (HB.out.cell (World.block_lt_of_cell? w _ hx11_3)).trans hx11_3; replace p419 := eq_true p419; replace q11 := eq_true q11; have p420 : 0 ≤ (0 : Int) := (by omega); have q12 : 0 < (l0.length : Int) := of_decide_eq_true za; obtain ⟨ad12, e420, hx12_0, hx12_1, hx12_2, hx12_3⟩ := at_T51 HR0.out 0 p420 q12; obtain rfl : ad11 = ad12 := (by injection e420); have qi420 : (0 < l0.length) = True := eq_true (by omega); (try rw [show ((0 : Int)).toNat = 0 from rfl] at hx12_0); (try rw [show 0 * 4 = 0 from rfl] at hx12_0); (try rw [Addr.add_zero'] at hx12_0); (try rw [show ((0 : Int)).toNat = 0 from rfl] at hx12_1); (try rw [show 0 * 4 = 0 from rfl] at hx12_1); (try rw [Addr.add_zero'] at hx12_1); (try rw [show ((0 : Int)).toNat = 0 from rfl] at hx12_2); (try rw [show 0 * 4 = 0 from rfl] at hx12_2); (try rw [Addr.add_zero'] at hx12_2); (try rw [show ((0 : Int)).toNat = 0 from rfl] at hx12_3); (try rw [show 0 * 4 = 0 from rfl] at hx12_3); (try rw [Addr.add_zero'] at hx12_3); replace hx12_0 := (HB.out.cell (World.block_lt_of_cell? w _ hx12_0)).trans hx12_0; replace hx12_1 := (HB.out.cell (World.block_lt_of_cell? w _ hx12_1)).trans hx12_1; replace hx12_2 := (HB.out.cell (World.block_lt_of_cell? w _ hx12_2)).trans hx12_2; replace hx12_3 := (HB.out.cell (World.block_lt_of_cell? w _ hx12_3)).trans hx12_3; replace p420 := eq_true p420; replace q12 := eq_true q12; obtain ⟨hcz8_0, hcz8_1, hfz8_0, hfz8_1⟩ := Lv.blks2 BK14.out)); try go_wp2_with (first | ((with_reducible refine gate_dst (N := 3) rfl ?_); refine box_event ?hg (N := 3) ?hd (cs := #[.int .i64 a1_0, .int .i64 a1_1]) (t := 32) ?hr ?_; (case hd => rfl); (case hg => rfl); (case hr => first | (go_simp; done) | (go_simp; rfl)); intro gb14 hg w7 hbox hb; have n0_ := Aside0.mk (below_step zb hb); have n1_ := Aside0.mk (hbox); have n2_ := Aside0.mk ((by rw [hg]; exact (below_size zb) : w.heap.size ≤ gb14)); have n3_ := n2_; clear HB; have HB := n0_; have BK14 := n1_; have GW14 := n2_; have GE14 := n3_; clear n0_ n1_ n2_ n3_; clear hb hbox hg; have p419 : 0 ≤ (0 : Int) := (by omega); have q11 : 0 < (l0.length : Int) := of_decide_eq_true za; obtain ⟨ad11, e419, hx11_0, hx11_1, hx11_2, hx11_3⟩ := at_T51 HR0.out 0 p419 q11; cases e419; have qi419 : (0 < l0.length) = True := eq_true (by omega); (try rw [show ((0 : Int)).toNat = 0 from rfl] at hx11_0); (try rw [show 0 * 4 = 0 from rfl] at hx11_0); (try rw [Addr.add_zero'] at hx11_0); (try rw [show ((0 : Int)).toNat = 0 from rfl] at hx11_1); (try rw [show 0 * 4 = 0 from rfl] at hx11_1); (try rw [Addr.add_zero'] at hx11_1); (try rw [show ((0 : Int)).toNat = 0 from rfl] at hx11_2); (try rw [show 0 * 4 = 0 from rfl] at hx11_2); (try rw [Addr.add_zero'] at hx11_2); (try rw [show ((0 : Int)).toNat = 0 from rfl] at hx11_3); (try rw [show 0 * 4 = 0 from rfl] at hx11_3); (try rw [Addr.add_zero'] at hx11_3); replace hx11_0 := (HB.out.cell (World.block_lt_of_cell? w _ hx11_0)).trans hx11_0; replace hx11_1 := (HB.out.cell (World.block_lt_of_cell? w _ hx11_1)).trans hx11_1; replace hx11_2 := (HB.out.cell (World.block_lt_of_cell? w _ hx11_2)).trans hx11_2; replace hx11_3 := (HB.out.cell (World.block_lt_of_cell? w _ hx11_3)).trans hx11_3; replace p419 := eq_true p419; replace q11 := eq_true q11; have p420 : 0 ≤ (0 : Int) := (by omega); have q12 : 0 < (l0.length : Int) := of_decide_eq_true za; obtain ⟨ad12, e420, hx12_0, hx12_1, hx12_2, hx12_3⟩ := at_T51 HR0.out 0 p420 q12; obtain rfl : ad11 = ad12 := (by injection e420); have qi420 : (0 < l0.length) = True := eq_true (by omega); (try rw [show ((0 : Int)).toNat = 0 from rfl] at hx12_0); (try rw [show 0 * 4 = 0 from rfl] at hx12_0); (try rw [Addr.add_zero'] at hx12_0); (try rw [show ((0 : Int)).toNat = 0 from rfl] at hx12_1); (try rw [show 0 * 4 = 0 from rfl] at hx12_1); (try rw [Addr.add_zero'] at hx12_1); (try rw [show ((0 : Int)).toNat = 0 from rfl] at hx12_2); (try rw [show 0 * 4 = 0 from rfl] at hx12_2); (try rw [Addr.add_zero'] at hx12_2); (try rw [show ((0 : Int)).toNat = 0 from rfl] at hx12_3); (try rw [show 0 * 4 = 0 from rfl] at hx12_3); (try rw [Addr.add_zero'] at hx12_3); replace hx12_0 := (HB.out.cell (World.block_lt_of_cell? w _ hx12_0)).trans hx12_0; replace hx12_1 := (HB.out.cell (World.block_lt_of_cell? w _ hx12_1)).trans hx12_1; replace hx12_2 := (HB.out.cell (World.block_lt_of_cell? w _ hx12_2)).trans hx12_2; replace hx12_3 := (HB.out.cell (World.block_lt_of_cell? w _ hx12_3)).trans hx12_3; replace p420 := eq_true p420; replace q12 := eq_true q12; obtain ⟨hcz8_0, hcz8_1, hfz8_0, hfz8_1⟩ := Lv.blks2 BK14.out)))
   go_ret
   exact ⟨ze, zb⟩
  rw [if_neg c6] at H
  have c6b0 : (((rd_T51 l0 0).f1) == 0) = false := beq_eq_false_iff_ne.mpr c6
  have c6b1 : (((rd_T51 l0 0).f1) != 0) = true := bne_iff_ne.mpr c6
  obtain rfl := Option.some.inj H
  go_enter Try.func51, Try.ntmps51
  go_wp2_with (first | ((with_reducible refine gate_dst (N := 3) rfl ?_); refine box_event ?hg (N := 3) ?hd (cs := #[.int .i64 a1_0, .int .i64 a1_1]) (t := 32) ?hr ?_; (case hd => rfl); (case hg => rfl); (case hr => first | (go_simp; done) | (go_simp; rfl)); intro gb14 hg w9 hbox hb; have n0_ := Aside0.mk (below_step zb hb); have n1_ := Aside0.mk (hbox); have n2_ := Aside0.mk ((by rw [hg]; exact (below_size zb) : w.heap.size ≤ gb14)); have n3_ := n2_; clear HB; have HB := n0_; have BK14 := n1_; have GW14 := n2_; have GE14 := n3_; clear n0_ n1_ n2_ n3_; clear hb hbox hg; have p419 : 0 ≤ (0 : Int) := (by omega); have q11 : 0 < (l0.length : Int) := of_decide_eq_true za; obtain ⟨ad11, e419, hx11_0, hx11_1, hx11_2, hx11_3⟩ := at_T51 HR0.out 0 p419 q11; cases e419; have qi419 : (0 < l0.length) = True := eq_true (by omega); (try rw [show ((0 : Int)).toNat = 0 from rfl] at hx11_0); (try rw [show 0 * 4 = 0 from rfl] at hx11_0); (try rw [Addr.add_zero'] at hx11_0); (try rw [show ((0 : Int)).toNat = 0 from rfl] at hx11_1); (try rw [show 0 * 4 = 0 from rfl] at hx11_1); (try rw [Addr.add_zero'] at hx11_1); (try rw [show ((0 : Int)).toNat = 0 from rfl] at hx11_2); (try rw [show 0 * 4 = 0 from rfl] at hx11_2); (try rw [Addr.add_zero'] at hx11_2); (try rw [show ((0 : Int)).toNat = 0 from rfl] at hx11_3); (try rw [show 0 * 4 = 0 from rfl] at hx11_3); (try rw [Addr.add_zero'] at hx11_3); replace hx11_0 := (HB.out.cell (World.block_lt_of_cell? w _ hx11_0)).trans hx11_0; replace hx11_1 := (HB.out.cell (World.block_lt_of_cell? w _ hx11_1)).trans hx11_1; replace hx11_2 := (HB.out.cell (World.block_lt_of_cell? w _ hx11_2)).trans hx11_2; replace hx11_3 := (HB.out.cell (World.block_lt_of_cell? w _ hx11_3)).trans hx11_3; replace p419 := eq_true p419; replace q11 := eq_true q11; have p421 : 0 ≤ (0 : Int) := (by omega); have q13 : 0 < (l0.length : Int) := of_decide_eq_true za; obtain ⟨ad13, e421, hx13_0, hx13_1, hx13_2, hx13_3⟩ := at_T51 HR0.out 0 p421 q13; obtain rfl : ad11 = ad13 := (by injection e421); have qi421 : (0 < l0.length) = True := eq_true (by omega); (try rw [show ((0 : Int)).toNat = 0 from rfl] at hx13_0); (try rw [show 0 * 4 = 0 from rfl] at hx13_0); (try rw [Addr.add_zero'] at hx13_0); (try rw [show ((0 : Int)).toNat = 0 from rfl] at hx13_1); (try rw [show 0 * 4 = 0 from rfl] at hx13_1); (try rw [Addr.add_zero'] at hx13_1); (try rw [show ((0 : Int)).toNat = 0 from rfl] at hx13_2); (try rw [show 0 * 4 = 0 from rfl] at hx13_2); (try rw [Addr.add_zero'] at hx13_2); (try rw [show ((0 : Int)).toNat = 0 from rfl] at hx13_3); (try rw [show 0 * 4 = 0 from rfl] at hx13_3); (try rw [Addr.add_zero'] at hx13_3); replace hx13_0 := (HB.out.cell (World.block_lt_of_cell? w _ hx13_0)).trans hx13_0; replace hx13_1 := (HB.out.cell (World.block_lt_of_cell? w _ hx13_1)).trans hx13_1; replace hx13_2 := (HB.out.cell (World.block_lt_of_cell? w _ hx13_2)).trans hx13_2; replace hx13_3 := (HB.out.cell (World.block_lt_of_cell? w _ hx13_3)).trans hx13_3; replace p421 := eq_true p421; replace q13 := eq_true q13; obtain ⟨hcz10_0, hcz10_1, hfz10_0, hfz10_1⟩ := Lv.blks2 BK14.out))
  repeat (go_quiet (first | ((with_reducible refine gate_dst (N := 3) rfl ?_); refine box_event ?hg (N := 3) ?hd (cs := #[.int .i64 a1_0, .int .i64 a1_1]) (t := 32) ?hr ?_; (case hd => rfl); (case hg => rfl); (case hr => first | (go_simp; done) | (go_simp; rfl)); intro gb14 hg w9 hbox hb; have n0_ := Aside0.mk (below_step zb hb); have n1_ := Aside0.mk (hbox); have n2_ := Aside0.mk ((by rw [hg]; exact (below_size zb) : w.heap.size ≤ gb14)); have n3_ := n2_; clear HB; have HB := n0_; have BK14 := n1_; have GW14 := n2_; have GE14 := n3_; clear n0_ n1_ n2_ n3_; clear hb hbox hg; have p419 : 0 ≤ (0 : Int) := (by omega); have q11 : 0 < (l0.length : Int) := of_decide_eq_true za; obtain ⟨ad11, e419, hx11_0, hx11_1, hx11_2, hx11_3⟩ := at_T51 HR0.out 0 p419 q11; cases e419; have qi419 : (0 < l0.length) = True := eq_true (by omega); (try rw [show ((0 : Int)).toNat = 0 from rfl] at hx11_0); (try rw [show 0 * 4 = 0 from rfl] at hx11_0); (try rw [Addr.add_zero'] at hx11_0); (try rw [show ((0 : Int)).toNat = 0 from rfl] at hx11_1); (try rw [show 0 * 4 = 0 from rfl] at hx11_1); (try rw [Addr.add_zero'] at hx11_1); (try rw [show ((0 : Int)).toNat = 0 from rfl] at hx11_2); (try rw [show 0 * 4 = 0 from rfl] at hx11_2); (try rw [Addr.add_zero'] at hx11_2); (try rw [show ((0 : Int)).toNat = 0 from rfl] at hx11_3); (try rw [show 0 * 4 = 0 from rfl] at hx11_3); (try rw [Addr.add_zero'] at hx11_3); replace hx11_0 := (HB.out.cell (World.block_lt_of_cell? w _ hx11_0)).trans hx11_0; replace hx11_1 := (HB.out.cell (World.block_lt_of_cell? w _ hx11_1)).trans hx11_1; replace hx11_2 := (HB.out.cell (World.block_lt_of_cell? w _ hx11_2)).trans hx11_2; replace hx11_3 := (HB.out.cell (World.block_lt_of_cell? w _ hx11_3)).trans hx11_3; replace p419 := eq_true p419; replace q11 := eq_true q11; have p421 : 0 ≤ (0 : Int) := (by omega); have q13 : 0 < (l0.length : Int) := of_decide_eq_true za; obtain ⟨ad13, e421, hx13_0, hx13_1, hx13_2, hx13_3⟩ := at_T51 HR0.out 0 p421 q13; obtain rfl : ad11 = ad13 := (by injection e421); have qi421 : (0 < l0.length) = True := eq_true (by omega); (try rw [show ((0 : Int)).toNat = 0 from rfl] at hx13_0); (try rw [show 0 * 4 = 0 from rfl] at hx13_0); (try rw [Addr.add_zero'] at hx13_0); (try rw [show ((0 : Int)).toNat = 0 from rfl] at hx13_1); (try rw [show 0 * 4 = 0 from rfl] at hx13_1); (try rw [Addr.add_zero'] at hx13_1); (try rw [show ((0 : Int)).toNat = 0 from rfl] at hx13_2); (try rw [show 0 * 4 = 0 from rfl] at hx13_2); (try rw [Addr.add_zero'] at hx13_2); (try rw [show ((0 : Int)).toNat = 0 from rfl] at hx13_3); (try rw [show 0 * 4 = 0 from rfl] at hx13_3); (try rw [Addr.add_zero'] at hx13_3); replace hx13_0 := (HB.out.cell (World.block_lt_of_cell? w _ hx13_0)).trans hx13_0; replace hx13_1 := (HB.out.cell (World.block_lt_of_cell? w _ hx13_1)).trans hx13_1; replace hx13_2 := (HB.out.cell (World.block_lt_of_cell? w _ hx13_2)).trans hx13_2; replace hx13_3 := (HB.out.cell (World.block_lt_of_cell? w _ hx13_3)).trans hx13_3; replace p421 := eq_true p421; replace q13 := eq_true q13; obtain ⟨hcz10_0, hcz10_1, hfz10_0, hfz10_1⟩ := Lv.blks2 BK14.out)); try go_wp2_with (first | ((with_reducible refine gate_dst (N := 3) rfl ?_); refine box_event ?hg (N := 3) ?hd (cs := #[.int .i64 a1_0, .int .i64 a1_1]) (t := 32) ?hr ?_; (case hd => rfl); (case hg => rfl); (case hr => first | (go_simp; done) | (go_simp; rfl)); intro gb14 hg w9 hbox hb; have n0_ := Aside0.mk (below_step zb hb); have n1_ := Aside0.mk (hbox); have n2_ := Aside0.mk ((by rw [hg]; exact (below_size zb) : w.heap.size ≤ gb14)); have n3_ := n2_; clear HB; have HB := n0_; have BK14 := n1_; have GW14 := n2_; have GE14 := n3_; clear n0_ n1_ n2_ n3_; clear hb hbox hg; have p419 : 0 ≤ (0 : Int) := (by omega); have q11 : 0 < (l0.length : Int) := of_decide_eq_true za; obtain ⟨ad11, e419, hx11_0, hx11_1, hx11_2, hx11_3⟩ := at_T51 HR0.out 0 p419 q11; cases e419; have qi419 : (0 < l0.length) = True := eq_true (by omega); (try rw [show ((0 : Int)).toNat = 0 from rfl] at hx11_0); (try rw [show 0 * 4 = 0 from rfl] at hx11_0); (try rw [Addr.add_zero'] at hx11_0); (try rw [show ((0 : Int)).toNat = 0 from rfl] at hx11_1); (try rw [show 0 * 4 = 0 from rfl] at hx11_1); (try rw [Addr.add_zero'] at hx11_1); (try rw [show ((0 : Int)).toNat = 0 from rfl] at hx11_2); (try rw [show 0 * 4 = 0 from rfl] at hx11_2); (try rw [Addr.add_zero'] at hx11_2); (try rw [show ((0 : Int)).toNat = 0 from rfl] at hx11_3); (try rw [show 0 * 4 = 0 from rfl] at hx11_3); (try rw [Addr.add_zero'] at hx11_3); replace hx11_0 := (HB.out.cell (World.block_lt_of_cell? w _ hx11_0)).trans hx11_0; replace hx11_1 := (HB.out.cell (World.block_lt_of_cell? w _ hx11_1)).trans hx11_1; replace hx11_2 := (HB.out.cell (World.block_lt_of_cell? w _ hx11_2)).trans hx11_2; replace hx11_3 := (HB.out.cell (World.block_lt_of_cell? w _ hx11_3)).trans hx11_3; replace p419 := eq_true p419; replace q11 := eq_true q11; have p421 : 0 ≤ (0 : Int) := (by omega); have q13 : 0 < (l0.length : Int) := of_decide_eq_true za; obtain ⟨ad13, e421, hx13_0, hx13_1, hx13_2, hx13_3⟩ := at_T51 HR0.out 0 p421 q13; obtain rfl : ad11 = ad13 := (by injection e421); have qi421 : (0 < l0.length) = True := eq_true (by omega); (try rw [show ((0 : Int)).toNat = 0 from rfl] at hx13_0); (try rw [show 0 * 4 = 0 from rfl] at hx13_0); (try rw [Addr.add_zero'] at hx13_0); (try rw [show ((0 : Int)).toNat = 0 from rfl] at hx13_1); (try rw [show 0 * 4 = 0 from rfl] at hx13_1); (try rw [Addr.add_zero'] at hx13_1); (try rw [show ((0 : Int)).toNat = 0 from rfl] at hx13_2); (try rw [show 0 * 4 = 0 from rfl] at hx13_2); (try rw [Addr.add_zero'] at hx13_2); (try rw [show ((0 : Int)).toNat = 0 from rfl] at hx13_3); (try rw [show 0 * 4 = 0 from rfl] at hx13_3); (try rw [Addr.add_zero'] at hx13_3); replace hx13_0 := (HB.out.cell (World.block_lt_of_cell? w _ hx13_0)).trans hx13_0; replace hx13_1 := (HB.out.cell (World.block_lt_of_cell? w _ hx13_1)).trans hx13_1; replace hx13_2 := (HB.out.cell (World.block_lt_of_cell? w _ hx13_2)).trans hx13_2; replace hx13_3 := (HB.out.cell (World.block_lt_of_cell? w _ hx13_3)).trans hx13_3; replace p421 := eq_true p421; replace q13 := eq_true q13; obtain ⟨hcz10_0, hcz10_1, hfz10_0, hfz10_1⟩ := Lv.blks2 BK14.out)))
  go_ret
  exact ⟨ze, zb⟩
 rw [if_neg c5] at H
 exact absurd H (by simp)
set_option maxHeartbeats 8000000 in
set_option maxRecDepth 100000 in
theorem spec_MayWrite.calls (k : Nat) (A0 : Option Addr) (c0 : Nat) (l0 : List (S51)) (a1_0 : Int) (a1_1 : Int) (r : Int) (w : World) (hr0 : Kd.C k51 w A0 l0.length l0) (hc0 : l0.length ≤ c0) (h : spec_MayWrite.f k l0 a1_0 a1_1 = some r) :
 Calls Try.prog 40 #[.slice A0 l0.length c0, .agg #[.int .i64 a1_0, .int .i64 a1_1]] w fun e w' => e = .returned (.int .i64 r) ∧ Below w.heap.size w w' := by
 have hu32 := Try.underlying32
 have HR0 := Aside0.mk hr0
 have HC0 := Aside0.mk hc0
 clear hr0 hc0
 have HB := Aside0.mk (Below.refl w.heap.size w)
 have H : ((spec_l5Asked.f k l0 a1_0 a1_1).bind fun t26 => (if t26 = 0 then (if a1_1 = 0 then (some 3) else ((spec_l5May.f l0 a1_0 a1_1).bind fun t27 => (if t27 = true then (some 0) else (some 9)))) else (some t26))) = some r := h
 clear h
 replace H := Option.bind_eq_some_iff.mp H
 obtain ⟨t26, A30, H⟩ := H
 replace H : (if t26 = 0 then (if a1_1 = 0 then (some 3) else ((spec_l5May.f l0 a1_0 a1_1).bind fun t27 => (if t27 = true then (some 0) else (some 9)))) else (some t26)) = some r := H
 have A3 := Aside0.mk A30
 clear A30
 by_cases c4 : t26 = 0
 ·rw [if_pos c4] at H
  have c4b0 : (t26 == 0) = true := beq_iff_eq.mpr c4
  have c4b1 : (t26 != 0) = false := bne_eq_false_iff_eq.mpr c4
  clear c4
  by_cases c5 : a1_1 = 0
  ·rw [if_pos c5] at H
   have c5b0 : (a1_1 == 0) = true := beq_iff_eq.mpr c5
   have c5b1 : (a1_1 != 0) = false := bne_eq_false_iff_eq.mpr c5
   clear c5
   obtain rfl := Option.some.inj H
   go_enter Try.func40, Try.ntmps40
   go_wp2_with (first | ((with_reducible refine gate_dst (N := 3) rfl ?_); refine box_event ?hg (N := 3) ?hd (cs := #[.int .i64 a1_0, .int .i64 a1_1]) (t := 32) ?hr ?_; (case hd => rfl); (case hg => rfl); (case hr => first | (go_simp; done) | (go_simp; rfl)); intro gb25 hg w6 hbox hb; have n0_ := Aside0.mk (below_step zb hb); have n1_ := Aside0.mk (hbox); have n2_ := Aside0.mk ((by rw [hg]; exact (below_size zb) : w.heap.size ≤ gb25)); have n3_ := n2_; clear HB; have HB := n0_; have BK25 := n1_; have GW25 := n2_; have GE25 := n3_; clear n0_ n1_ n2_ n3_; clear hb hbox hg; obtain ⟨hcz7_0, hcz7_1, hfz7_0, hfz7_1⟩ := Lv.blks2 BK25.out) | ((with_reducible refine gate_callee (f := 38) rfl ?_); refine goesL_ (some 8) rfl rfl Try.func38 (by kernel_rfl) rfl #[.slice A0 l0.length c0, .agg #[.int .i64 a1_0, .int .i64 a1_1]] rfl zm ?_; (with_reducible refine (spec_l5Asked.calls k _ _ l0 a1_0 a1_1 t26 _ ?side1 ?side2 A3.out).mono ?_); (case side1 => repeat (first | exact (Kd.C_below HR0.out HB.out) | (with_reducible first | refine Kd.C_alloc ?_ _ | refine Kd.C_drewN ?_ _ | refine Kd.C_drew ?_))); (case side2 => exact HC0.out); rintro e w8 ⟨rfl, hb⟩; refine ⟨_, rfl, ?_⟩; have n0_ := Aside0.mk (blk_below (g := gb25) (o := .cells #[.int .i64 a1_0, .int .i64 a1_1] 32 (0, 0)) zk hb); have n1_ := Aside0.mk (below_step zb hb); clear BK25; clear HB; have BK25 := n0_; have HB := n1_; clear n0_ n1_; (try clear hb); (try clear hb2); (try clear hk); (try clear hi); obtain ⟨hcz9_0, hcz9_1, hfz9_0, hfz9_1⟩ := Lv.blks2 BK25.out))
   go_ret
   exact ⟨ze, zb⟩
  rw [if_neg c5] at H
  have c5b0 : (a1_1 == 0) = false := beq_eq_false_iff_ne.mpr c5
  have c5b1 : (a1_1 != 0) = true := bne_iff_ne.mpr c5
  replace H := Option.bind_eq_some_iff.mp H
  obtain ⟨t27, A28, H⟩ := H
  replace H : (if t27 = true then (some 0) else (some 9)) = some r := H
  have A10 := Aside0.mk A28
  clear A28
  by_cases c11 : t27 = true
  ·subst c11
   have H1 : (some 0) = some r := by rw [if_pos rfl] at H; exact H
   clear H
   have H := H1
   clear H1
   obtain rfl := Option.some.inj H
   go_enter Try.func40, Try.ntmps40
   go_wp2_with (first | ((with_reducible refine gate_dst (N := 3) rfl ?_); refine box_event ?hg (N := 3) ?hd (cs := #[.int .i64 a1_0, .int .i64 a1_1]) (t := 32) ?hr ?_; (case hd => rfl); (case hg => rfl); (case hr => first | (go_simp; done) | (go_simp; rfl)); intro gb25 hg w12 hbox hb; have n0_ := Aside0.mk (below_step zb hb); have n1_ := Aside0.mk (hbox); have n2_ := Aside0.mk ((by rw [hg]; exact (below_size zb) : w.heap.size ≤ gb25)); have n3_ := n2_; clear HB; have HB := n0_; have BK25 := n1_; have GW25 := n2_; have GE25 := n3_; clear n0_ n1_ n2_ n3_; clear hb hbox hg; obtain ⟨hcz13_0, hcz13_1, hfz13_0, hfz13_1⟩ := Lv.blks2 BK25.out) | ((with_reducible refine gate_callee (f := 38) rfl ?_); refine goesL_ (some 8) rfl rfl Try.func38 (by kernel_rfl) rfl #[.slice A0 l0.length c0, .agg #[.int .i64 a1_0, .int .i64 a1_1]] rfl zm ?_; (with_reducible refine (spec_l5Asked.calls k _ _ l0 a1_0 a1_1 t26 _ ?side1 ?side2 A3.out).mono ?_); (case side1 => repeat (first | exact (Kd.C_below HR0.out HB.out) | (with_reducible first | refine Kd.C_alloc ?_ _ | refine Kd.C_drewN ?_ _ | refine Kd.C_drew ?_))); (case side2 => exact HC0.out); rintro e w14 ⟨rfl, hb⟩; refine ⟨_, rfl, ?_⟩; have n0_ := Aside0.mk (blk_below (g := gb25) (o := .cells #[.int .i64 a1_0, .int .i64 a1_1] 32 (0, 0)) zk hb); have n1_ := Aside0.mk (below_step zb hb); clear BK25; clear HB; have BK25 := n0_; have HB := n1_; clear n0_ n1_; (try clear hb); (try clear hb2); (try clear hk); (try clear hi); obtain ⟨hcz15_0, hcz15_1, hfz15_0, hfz15_1⟩ := Lv.blks2 BK25.out) | ((with_reducible refine gate_callee (f := 51) rfl ?_); refine goesL_ (some 17) rfl rfl Try.func51 (by kernel_rfl) rfl #[.slice A0 l0.length c0, .agg #[.int .i64 a1_0, .int .i64 a1_1]] rfl zm ?_; (with_reducible refine (spec_l5May.calls _ _ l0 a1_0 a1_1 true _ ?side1 ?side2 A10.out).mono ?_); (case side1 => repeat (first | exact (Kd.C_below HR0.out HB.out) | (with_reducible first | refine Kd.C_alloc ?_ _ | refine Kd.C_drewN ?_ _ | refine Kd.C_drew ?_))); (case side2 => exact HC0.out); rintro e w16 ⟨rfl, hb⟩; refine ⟨_, rfl, ?_⟩; have n0_ := Aside0.mk (blk_below (g := gb25) (o := .cells #[.int .i64 a1_0, .int .i64 a1_1] 32 (0, 0)) zk hb); have n1_ := Aside0.mk (below_step zb hb); clear BK25; clear HB; have BK25 := n0_; have HB := n1_; clear n0_ n1_; (try clear hb); (try clear hb2); (try clear hk); (try clear hi)))
   go_ret
   exact ⟨ze, zb⟩
  replace c11 := Bool.eq_false_iff.mpr c11
  subst c11
  have H1 : (some 9) = some r := by rw [if_neg (show ¬ (false = true) by decide)] at H; exact H
  clear H
  have H := H1
  clear H1
  obtain rfl := Option.some.inj H
  go_enter Try.func40, Try.ntmps40
  go_wp2_with (first | ((with_reducible refine gate_dst (N := 3) rfl ?_); refine box_event ?hg (N := 3) ?hd (cs := #[.int .i64 a1_0, .int .i64 a1_1]) (t := 32) ?hr ?_; (case hd => rfl); (case hg => rfl); (case hr => first | (go_simp; done) | (go_simp; rfl)); intro gb25 hg w17 hbox hb; have n0_ := Aside0.mk (below_step zb hb); have n1_ := Aside0.mk (hbox); have n2_ := Aside0.mk ((by rw [hg]; exact (below_size zb) : w.heap.size ≤ gb25)); have n3_ := n2_; clear HB; have HB := n0_; have BK25 := n1_; have GW25 := n2_; have GE25 := n3_; clear n0_ n1_ n2_ n3_; clear hb hbox hg; obtain ⟨hcz18_0, hcz18_1, hfz18_0, hfz18_1⟩ := Lv.blks2 BK25.out) | ((with_reducible refine gate_callee (f := 38) rfl ?_); refine goesL_ (some 8) rfl rfl Try.func38 (by kernel_rfl) rfl #[.slice A0 l0.length c0, .agg #[.int .i64 a1_0, .int .i64 a1_1]] rfl zm ?_; (with_reducible refine (spec_l5Asked.calls k _ _ l0 a1_0 a1_1 t26 _ ?side1 ?side2 A3.out).mono ?_); (case side1 => repeat (first | exact (Kd.C_below HR0.out HB.out) | (with_reducible first | refine Kd.C_alloc ?_ _ | refine Kd.C_drewN ?_ _ | refine Kd.C_drew ?_))); (case side2 => exact HC0.out); rintro e w19 ⟨rfl, hb⟩; refine ⟨_, rfl, ?_⟩; have n0_ := Aside0.mk (blk_below (g := gb25) (o := .cells #[.int .i64 a1_0, .int .i64 a1_1] 32 (0, 0)) zk hb); have n1_ := Aside0.mk (below_step zb hb); clear BK25; clear HB; have BK25 := n0_; have HB := n1_; clear n0_ n1_; (try clear hb); (try clear hb2); (try clear hk); (try clear hi); obtain ⟨hcz20_0, hcz20_1, hfz20_0, hfz20_1⟩ := Lv.blks2 BK25.out) | ((with_reducible refine gate_callee (f := 51) rfl ?_); refine goesL_ (some 17) rfl rfl Try.func51 (by kernel_rfl) rfl #[.slice A0 l0.length c0, .agg #[.int .i64 a1_0, .int .i64 a1_1]] rfl zm ?_; (with_reducible refine (spec_l5May.calls _ _ l0 a1_0 a1_1 false _ ?side1 ?side2 A10.out).mono ?_); (case side1 => repeat (first | exact (Kd.C_below HR0.out HB.out) | (with_reducible first | refine Kd.C_alloc ?_ _ | refine Kd.C_drewN ?_ _ | refine Kd.C_drew ?_))); (case side2 => exact HC0.out); rintro e w21 ⟨rfl, hb⟩; refine ⟨_, rfl, ?_⟩; have n0_ := Aside0.mk (blk_below (g := gb25) (o := .cells #[.int .i64 a1_0, .int .i64 a1_1] 32 (0, 0)) zk hb); have n1_ := Aside0.mk (below_step zb hb); clear BK25; clear HB; have BK25 := n0_; have HB := n1_; clear n0_ n1_; (try clear hb); (try clear hb2); (try clear hk); (try clear hi)))
  go_ret
  exact ⟨ze, zb⟩
 rw [if_neg c4] at H
 have c4b0 : (t26 == 0) = false := beq_eq_false_iff_ne.mpr c4
 have c4b1 : (t26 != 0) = true := bne_iff_ne.mpr c4
 obtain rfl := Option.some.inj H
 go_enter Try.func40, Try.ntmps40
 go_wp2_with (first | ((with_reducible refine gate_dst (N := 3) rfl ?_); refine box_event ?hg (N := 3) ?hd (cs := #[.int .i64 a1_0, .int .i64 a1_1]) (t := 32) ?hr ?_; (case hd => rfl); (case hg => rfl); (case hr => first | (go_simp; done) | (go_simp; rfl)); intro gb25 hg w22 hbox hb; have n0_ := Aside0.mk (below_step zb hb); have n1_ := Aside0.mk (hbox); have n2_ := Aside0.mk ((by rw [hg]; exact (below_size zb) : w.heap.size ≤ gb25)); have n3_ := n2_; clear HB; have HB := n0_; have BK25 := n1_; have GW25 := n2_; have GE25 := n3_; clear n0_ n1_ n2_ n3_; clear hb hbox hg; obtain ⟨hcz23_0, hcz23_1, hfz23_0, hfz23_1⟩ := Lv.blks2 BK25.out) | ((with_reducible refine gate_callee (f := 38) rfl ?_); refine goesL_ (some 8) rfl rfl Try.func38 (by kernel_rfl) rfl #[.slice A0 l0.length c0, .agg #[.int .i64 a1_0, .int .i64 a1_1]] rfl zm ?_; (with_reducible refine (spec_l5Asked.calls k _ _ l0 a1_0 a1_1 t26 _ ?side1 ?side2 A3.out).mono ?_); (case side1 => repeat (first | exact (Kd.C_below HR0.out HB.out) | (with_reducible first | refine Kd.C_alloc ?_ _ | refine Kd.C_drewN ?_ _ | refine Kd.C_drew ?_))); (case side2 => exact HC0.out); rintro e w24 ⟨rfl, hb⟩; refine ⟨_, rfl, ?_⟩; have n0_ := Aside0.mk (blk_below (g := gb25) (o := .cells #[.int .i64 a1_0, .int .i64 a1_1] 32 (0, 0)) zk hb); have n1_ := Aside0.mk (below_step zb hb); clear BK25; clear HB; have BK25 := n0_; have HB := n1_; clear n0_ n1_; (try clear hb); (try clear hb2); (try clear hk); (try clear hi)))
 go_ret
 exact ⟨ze, zb⟩
set_option maxHeartbeats 8000000 in
set_option maxRecDepth 100000 in
theorem spec_l5Copy.calls (A0 : Option Addr) (c0 : Nat) (l0 : List (S51)) (r : List (S51)) (w : World) (hr0 : Kd.C k51 w A0 l0.length l0) (hc0 : l0.length ≤ c0) (h : spec_l5Copy.f l0 = some r) :
 Calls Try.prog 46 #[.slice A0 l0.length c0] w fun e w' => ∃ v0_ : Value, e = .returned (v0_) ∧ Kd.R k51 51 w' w.heap.size (fun _ => True) v0_ r ∧ Below w.heap.size w w' := by
 have HR0 := Aside0.mk hr0
 have HC0 := Aside0.mk hc0
 clear hr0 hc0
 have HB := Aside0.mk (Below.refl w.heap.size w)
 have H : ((some (([] : List (S51)) : List (S51))).bind fun y6 => (if y6.length + l0.length < 4398046511104 then (some (y6 ++ l0)) else (none))) = some r := h
 clear h
 obtain ⟨y6, hy6⟩ : ∃ y_ : List (S51), y_ = (([] : List (S51))) := ⟨_, rfl⟩
 replace H : (if y6.length + l0.length < 4398046511104 then (some (y6 ++ l0)) else (none)) = some r := by first | (rw [hy6]; with_reducible exact H) | (have H2_ := (Option.bind_some _ _).symm.trans H; rw [hy6]; with_reducible exact H2_) | (have H2_ := (Option.bind_some _ _).symm.trans H; with_reducible exact H2_) | with_reducible exact H | (rw [hy6]; exact H) | exact H
 have Ny6 := Aside0.mk hy6
 clear hy6
 by_cases c2 : y6.length + l0.length < 4398046511104
 ·rw [if_pos c2] at H
  have LMc2 := Aside0.mk c2
  clear c2
  obtain ⟨y7, hy7⟩ : ∃ y_ : List (S51), y_ = (y6 ++ l0) := ⟨_, rfl⟩
  replace H : (some y7) = some r := by first | (rw [hy7]; with_reducible exact H) | (have H2_ := (Option.bind_some _ _).symm.trans H; rw [hy7]; with_reducible exact H2_) | (have H2_ := (Option.bind_some _ _).symm.trans H; with_reducible exact H2_) | with_reducible exact H | (rw [hy7]; exact H) | exact H
  have Ny7 := Aside0.mk hy7
  clear hy7
  obtain rfl := Option.some.inj H
  go_enter Try.func46, Try.ntmps46
  go_wp2_with (first | ((with_reducible refine gate_dst (N := 3) rfl ?_); refine Kd.R_lit k51 _ 51 ?hg (N := 3) ?hd (xs := ([] : List (S51))) (inner := []) (ok := fun _ => True) (okp := fun _ => True) ?hr ?hp (fun _ hk => hk) trivial (Below.refl _ _) (Nat.le_refl _) (by simp) ?_; (case hd => rfl); (case hg => rfl); (case hr => first | (go_simp; done) | (go_simp; rfl)); (case hp => exact (Reps.none _ _)); intro v9 w3 ho4 hb hg_ hnew_; clear hg_ hnew_; (first | rw [← Ny6.out] at ho4 | (simp only [Int.reduceToNat] at ho4; rw [← Ny6.out] at ho4)); have n0_ := Aside0.mk (Kd.R_lower ho4 (below_size zb)); have n1_ := Aside0.mk (below_step zb hb); clear HB; have HO8 := n0_; have HB := n1_; clear n0_ n1_; clear hb ho4) | ((with_reducible refine gate_builtin (b := .append) (xs := #[.tmp 3, .tmp 4]) rfl ?_); at_builtin; refine Kd.R_append_rows k51 (w0 := w) w.heap.size rfl (.tmp 3) (.tmp 4) 24 51 (.agg #[(.int .i64 0), (.int .i64 0), (.bool false), (.int .i64 0)]) 32 rfl Try.underlying24 info51 rfl (by decide) (by omega) v9 y6 l0 _ _ _ (fun _ => True) (fun _ => False) rfl rfl ?aO ?aR (fun _ _ h => h) (fun _ h => h.elim) ?aF ?aB ?aS ?aL ?_; (case aR => repeat (first | exact (Kd.C_below HR0.out HB.out) | (with_reducible first | refine Kd.C_alloc ?_ _ | refine Kd.C_drewN ?_ _ | refine Kd.C_drew ?_))); (case aB => exact zb); (case aF => exact (fun _ _ => trivial)); (case aO => exact (by (with_reducible repeat (first | apply Kd.R_alloc | apply Kd.R_drewN | apply Kd.R_drew)); exact HO8.out)); (case aS => exact (below_size zb)); (case aL => have := LMc2.out; omega); intro v11 w5 ho hb hg hat; rw [← Ny7.out] at ho; have n0_ := Aside0.mk (hb); have n1_ := Aside0.mk (ho); clear HB; clear HO8; have HB := n0_; have HO10 := n1_; clear n0_ n1_; clear ho hb hg hat))
  go_ret
  exact ⟨_, ze, by (with_reducible repeat (first | apply Kd.R_alloc | apply Kd.R_drewN | apply Kd.R_drew)); exact HO10.out, zb⟩
 rw [if_neg c2] at H
 exact absurd H (by simp)
set_option maxHeartbeats 8000000 in
set_option maxRecDepth 100000 in
theorem spec_l5Push.calls (P0_ : Nat → Prop) (u9000_ : Value) (l0 : List (S51)) (a1 : Int) (a2 : Bool) (a3 : Int) (r1 : List (S51)) (r2 : Int) (w0 w : World) (hB : Below w0.heap.size w0 w) (ho0 : Kd.R k51 51 w w0.heap.size P0_ u9000_ l0) (h : spec_l5Push.f l0 a1 a2 a3 = some (r1, r2)) :
 Calls Try.prog 41 #[u9000_, .int .i64 a1, .bool a2, .int .i64 a3] w fun e w' => ∃ v0_ : Value, e = .returned (.tuple #[v0_, .int .i64 r2]) ∧ Kd.R k51 51 w' w0.heap.size (fun k_ => (P0_ k_ ∨ w.heap.size ≤ k_)) v0_ r1 ∧ Below w0.heap.size w0 w' ∧ Kept w w' (fun k_ => P0_ k_) := by
 have hu51 := Try.underlying51
 have HO0 := Aside0.mk (show Kd.R k51 51 w w0.heap.size (fun k_ => (P0_ k_ ∨ w.heap.size ≤ k_)) u9000_ l0 from Kd.R_mono ho0 (fun k_ hk => (.inl hk)))
 have HK := Aside0.mk (Kept.refl w (fun k_ => P0_ k_))
 have HW0 := Aside0.mk hB.size
 have HB := Aside0.mk hB
 clear hB
 have H : ((spec_l5Writer.f l0).bind fun t34 => (if t34 = a1 then ((spec_l5Copy.f l0).bind fun t29 => (if 0 < (t29.length : Int) then (some ((t29.set (0 : Int).toNat (⟨a1, 0, a2, a3⟩ : S51)), 0)) else (none))) else (if (l0.length : Int) ≥ 12 then (some (l0, 2)) else ((some (([(⟨a1, 0, a2, a3⟩ : S51)] : List (S51)) : List (S51))).bind fun y30 => (if y30.length + l0.length < 4398046511104 then (some ((y30 ++ l0), 0)) else (none)))))) = some (r1, r2) := h
 clear h
 replace H := Option.bind_eq_some_iff.mp H
 obtain ⟨t34, A50, H⟩ := H
 replace H : (if t34 = a1 then ((spec_l5Copy.f l0).bind fun t29 => (if 0 < (t29.length : Int) then (some ((t29.set (0 : Int).toNat (⟨a1, 0, a2, a3⟩ : S51)), 0)) else (none))) else (if (l0.length : Int) ≥ 12 then (some (l0, 2)) else ((some (([(⟨a1, 0, a2, a3⟩ : S51)] : List (S51)) : List (S51))).bind fun y30 => (if y30.length + l0.length < 4398046511104 then (some ((y30 ++ l0), 0)) else (none))))) = some (r1, r2) := H
 have A5 := Aside0.mk A50
 clear A50
 by_cases c6 : t34 = a1
 ·rw [if_pos c6] at H
  have c6b0 : (t34 == a1) = true := beq_iff_eq.mpr c6
  have c6b1 : (t34 != a1) = false := bne_eq_false_iff_eq.mpr c6
  clear c6
  replace H := Option.bind_eq_some_iff.mp H
  obtain ⟨t29, A70, H⟩ := H
  replace H : (if 0 < (t29.length : Int) then (some ((t29.set (0 : Int).toNat (⟨a1, 0, a2, a3⟩ : S51)), 0)) else (none)) = some (r1, r2) := H
  have A7 := Aside0.mk A70
  clear A70
  by_cases c8 : 0 < (t29.length : Int)
  ·rw [if_pos c8] at H
   have c8b0 : decide (0 < (t29.length : Int)) = true := decide_eq_true c8
   have c8b1 : decide (0 < t29.length) = true := decide_eq_true (by omega)
   clear c8
   obtain ⟨y35, hy35⟩ : ∃ y_ : List (S51), y_ = (t29.set (0 : Int).toNat (⟨a1, 0, a2, a3⟩ : S51)) := ⟨_, rfl⟩
   replace H : (some (y35, 0)) = some (r1, r2) := by first | (rw [hy35]; with_reducible exact H) | (have H2_ := (Option.bind_some _ _).symm.trans H; rw [hy35]; with_reducible exact H2_) | (have H2_ := (Option.bind_some _ _).symm.trans H; with_reducible exact H2_) | with_reducible exact H | (rw [hy35]; exact H) | exact H
   have Ny35 := Aside0.mk hy35
   clear hy35
   simp only [Option.some.injEq, Prod.mk.injEq] at H
   obtain ⟨rfl, rfl⟩ := H
   go_enter Try.func41, Try.ntmps41
   go_wp2_with (first | ((with_reducible refine gate_dst (N := 10) rfl ?_); refine box_event ?hg (N := 10) ?hd (cs := #[.int .i64 0, .int .i64 0, .bool false, .int .i64 0]) (t := 51) ?hr ?_; (case hd => rfl); (case hg => rfl); (case hr => first | (go_simp; done) | (go_simp; rfl)); intro gb28 hg w10 hbox hb; have n0_ := Aside0.mk (Kd.R_below (Kd.R_elderB (by (with_reducible repeat (first | apply Kd.R_alloc | apply Kd.R_drewN | apply Kd.R_drew)); exact HO0.out) gb28 (Nat.le_of_eq hg.symm)) hb); have n1_ := Aside0.mk (Kept.below (S := (fun k_ => P0_ k_)) (by repeat (first | (with_reducible first | exact HK.out | apply Kept.alloc | apply Kept.drewN | apply Kept.drew) | exact HK.out)) hb); have n2_ := Aside0.mk (below_step zb hb); have n3_ := Aside0.mk (hbox); have n4_ := Aside0.mk ((by rw [hg]; exact (by first | exact HK.out.1 | exact (show Kept w _ (fun k_ => P0_ k_) from by repeat (first | (with_reducible first | exact HK.out | apply Kept.alloc | apply Kept.drewN | apply Kept.drew) | exact HK.out)).1) : w.heap.size ≤ gb28)); have n5_ := Aside0.mk ((by rw [hg]; exact (below_size zb) : w0.heap.size ≤ gb28)); clear HO0; clear HK; clear HB; have HO0 := n0_; have HK := n1_; have HB := n2_; have BK28 := n3_; have GW28 := n4_; have GE28 := n5_; clear n0_ n1_ n2_ n3_ n4_ n5_; clear hb hbox hg; obtain ⟨hcz11_0, hcz11_1, hcz11_2, hcz11_3, hfz11_0, hfz11_1, hfz11_2, hfz11_3⟩ := Lv.blks4 BK28.out; obtain ⟨Ao12, co12, eo12⟩ := Kd.R_slice HO0.out; subst eo12) | ((with_reducible refine gate_callee (f := 36) rfl ?_); refine goesL_ (some 17) rfl rfl Try.func36 (by kernel_rfl) rfl #[.slice Ao12 l0.length co12] rfl zm ?_; (with_reducible refine (spec_l5Writer.calls _ _ l0 t34 _ ?side1 ?side2 A5.out).mono ?_); (case side1 => refine (Kd.R_reads' (e := 51) (base := w0.heap.size) (ok := fun k_ => ((P0_ k_ ∨ w.heap.size ≤ k_) ∧ k_ ≠ gb28)) (n := l0.length) (c := co12) ?_).2.2; exact (by (with_reducible repeat (first | apply Kd.R_alloc | apply Kd.R_drewN | apply Kd.R_drew)); exact (Kd.R_mono (Kd.R_far (p := ⟨gb28, 3, none⟩) (Kd.R_far (p := ⟨gb28, 2, none⟩) (Kd.R_far (p := ⟨gb28, 1, none⟩) (Kd.R_far (p := ⟨gb28, 0, none⟩) (Kd.R_mono HO0.out (fun k_ hk => (⟨hk, hk.2⟩ : _ ∧ k_ ≠ gb28))) (fun _ hk => hk.2) (.int .i64 a1)) (fun _ hk => hk.2) (.int .i64 0)) (fun _ hk => hk.2) (.bool a2)) (fun _ hk => hk.2) (.int .i64 a3)) (fun _ h_ => h_.1)))); (case side2 => exact (Kd.R_reads' HO0.out).2.1); rintro e w' ⟨rfl, ⟨nd, rfl⟩⟩; refine ⟨_, rfl, ?_⟩) | ((with_reducible refine gate_callee (f := 46) rfl ?_); refine goesL_ (some 21) rfl rfl Try.func46 (by kernel_rfl) rfl #[.slice Ao12 l0.length co12] rfl zm ?_; (with_reducible refine (spec_l5Copy.calls _ _ l0 t29 _ ?side1 ?side2 A7.out).mono ?_); (case side1 => refine (Kd.R_reads' (e := 51) (base := w0.heap.size) (ok := fun k_ => ((P0_ k_ ∨ w.heap.size ≤ k_) ∧ k_ ≠ gb28)) (n := l0.length) (c := co12) ?_).2.2; exact (by (with_reducible repeat (first | apply Kd.R_alloc | apply Kd.R_drewN | apply Kd.R_drew)); exact (Kd.R_mono (Kd.R_far (p := ⟨gb28, 3, none⟩) (Kd.R_far (p := ⟨gb28, 2, none⟩) (Kd.R_far (p := ⟨gb28, 1, none⟩) (Kd.R_far (p := ⟨gb28, 0, none⟩) (Kd.R_mono HO0.out (fun k_ hk => (⟨hk, hk.2⟩ : _ ∧ k_ ≠ gb28))) (fun _ hk => hk.2) (.int .i64 a1)) (fun _ hk => hk.2) (.int .i64 0)) (fun _ hk => hk.2) (.bool a2)) (fun _ hk => hk.2) (.int .i64 a3)) (fun _ h_ => h_.1)))); (case side2 => exact (Kd.R_reads' HO0.out).2.1); rintro e w13 ⟨v42, rfl, ho0, hb⟩; refine ⟨_, rfl, ?_⟩; have n0_ := Aside0.mk (Kd.R_elder' (by (with_reducible repeat (first | apply Kd.R_alloc | apply Kd.R_drewN | apply Kd.R_drew)); exact (Kd.R_mono (Kd.R_far (p := ⟨gb28, 3, none⟩) (Kd.R_far (p := ⟨gb28, 2, none⟩) (Kd.R_far (p := ⟨gb28, 1, none⟩) (Kd.R_far (p := ⟨gb28, 0, none⟩) (Kd.R_mono HO0.out (fun k_ hk => (⟨hk, hk.2⟩ : _ ∧ k_ ≠ gb28))) (fun _ hk => hk.2) (.int .i64 a1)) (fun _ hk => hk.2) (.int .i64 0)) (fun _ hk => hk.2) (.bool a2)) (fun _ hk => hk.2) (.int .i64 a3)) (fun _ h_ => h_.1))) (Kd.R_base ho0) hb); have n1_ := Aside0.mk (Kd.R_lower (Kd.R_newB (Kd.R_new' (Kd.R_newM (M := fun k_ => (P0_ k_ ∨ w.heap.size ≤ k_)) ho0 (show Kept w _ (fun k_ => P0_ k_) from by repeat (first | (with_reducible first | exact HK.out | apply Kept.alloc | apply Kept.drewN | apply Kept.drew | refine Kept.setCell ?_ (.inr GW28.out) _) | exact HK.out)).1 (fun k_ h_ => .inr h_)) (Kd.R_lt (by (with_reducible repeat (first | apply Kd.R_alloc | apply Kd.R_drewN | apply Kd.R_drew)); exact (Kd.R_mono (Kd.R_far (p := ⟨gb28, 3, none⟩) (Kd.R_far (p := ⟨gb28, 2, none⟩) (Kd.R_far (p := ⟨gb28, 1, none⟩) (Kd.R_far (p := ⟨gb28, 0, none⟩) (Kd.R_mono HO0.out (fun k_ hk => (⟨hk, hk.2⟩ : _ ∧ k_ ≠ gb28))) (fun _ hk => hk.2) (.int .i64 a1)) (fun _ hk => hk.2) (.int .i64 0)) (fun _ hk => hk.2) (.bool a2)) (fun _ hk => hk.2) (.int .i64 a3)) (fun _ h_ => h_.1))))) (g := gb28) (o := .cells #[.int .i64 a1, .int .i64 0, .bool a2, .int .i64 a3] 51 (0, 0)) (by (with_reducible repeat (first | refine blk_drewN ?_ _ | refine blk_drew ?_ | refine blk_alloc ?_ _)); refine blk_put (cs := #[.int .i64 a1, .int .i64 0, .bool a2, .int .i64 0]) ?_ 3 _ rfl; (with_reducible repeat (first | refine blk_drewN ?_ _ | refine blk_drew ?_ | refine blk_alloc ?_ _)); refine blk_put (cs := #[.int .i64 a1, .int .i64 0, .bool false, .int .i64 0]) ?_ 2 _ rfl; (with_reducible repeat (first | refine blk_drewN ?_ _ | refine blk_drew ?_ | refine blk_alloc ?_ _)); refine blk_put (cs := #[.int .i64 a1, .int .i64 0, .bool false, .int .i64 0]) ?_ 1 _ rfl; (with_reducible repeat (first | refine blk_drewN ?_ _ | refine blk_drew ?_ | refine blk_alloc ?_ _)); refine blk_put (cs := #[.int .i64 0, .int .i64 0, .bool false, .int .i64 0]) ?_ 0 _ rfl; (with_reducible repeat (first | refine blk_drewN ?_ _ | refine blk_drew ?_ | refine blk_alloc ?_ _)); exact BK28.out)) (below_size zb)); have n2_ := Aside0.mk (blk_below (g := gb28) (o := .cells #[.int .i64 a1, .int .i64 0, .bool a2, .int .i64 a3] 51 (0, 0)) (by (with_reducible repeat (first | refine blk_drewN ?_ _ | refine blk_drew ?_ | refine blk_alloc ?_ _)); refine blk_put (cs := #[.int .i64 a1, .int .i64 0, .bool a2, .int .i64 0]) ?_ 3 _ rfl; (with_reducible repeat (first | refine blk_drewN ?_ _ | refine blk_drew ?_ | refine blk_alloc ?_ _)); refine blk_put (cs := #[.int .i64 a1, .int .i64 0, .bool false, .int .i64 0]) ?_ 2 _ rfl; (with_reducible repeat (first | refine blk_drewN ?_ _ | refine blk_drew ?_ | refine blk_alloc ?_ _)); refine blk_put (cs := #[.int .i64 a1, .int .i64 0, .bool false, .int .i64 0]) ?_ 1 _ rfl; (with_reducible repeat (first | refine blk_drewN ?_ _ | refine blk_drew ?_ | refine blk_alloc ?_ _)); refine blk_put (cs := #[.int .i64 0, .int .i64 0, .bool false, .int .i64 0]) ?_ 0 _ rfl; (with_reducible repeat (first | refine blk_drewN ?_ _ | refine blk_drew ?_ | refine blk_alloc ?_ _)); exact BK28.out) hb); have n3_ := Aside0.mk (Kept.below (S := (fun k_ => P0_ k_)) (by repeat (first | (with_reducible first | exact HK.out | apply Kept.alloc | apply Kept.drewN | apply Kept.drew | refine Kept.setCell ?_ (.inr GW28.out) _) | exact HK.out)) hb); have n4_ := Aside0.mk (below_step zb hb); clear HO0; clear BK28; clear HK; clear HB; have HO0 := n0_; have HO33 := n1_; have BK28 := n2_; have HK := n3_; have HB := n4_; clear n0_ n1_ n2_ n3_ n4_; (try clear hb); (try clear hb2); (try clear hk); (try clear hi); (try clear ho0); obtain ⟨hcz14_0, hcz14_1, hcz14_2, hcz14_3, hfz14_0, hfz14_1, hfz14_2, hfz14_3⟩ := Lv.blks4 BK28.out; have p9 : 0 ≤ (0 : Int) := (by omega); have q9 : (0 : Int) < ((t29.length : Int) : Int) := of_decide_eq_true za; have qi9 : (0 < t29.length) = True := eq_true (by omega); obtain ⟨go9, co9, eo9, gb9, gl9, cl9, HG9⟩ := Kd.R_form HO33.out (by omega); (first | cases eo9 | (injection eo9 with ea_ en_ ec_; (first | subst ea_ | (injection ea_ with ea_; subst ea_)); subst ec_; clear en_)); have GB9 := Aside0.mk gb9; have GG9 := Aside0.mk HG9; clear gb9 gl9 HG9; have HMgo9 := Aside0.mk (show (P0_ go9 ∨ w.heap.size ≤ go9) from (HO33.out.1 _ rfl).1.1.1); obtain ⟨ce9, hcl9, hM9, hcc9, hfr9⟩ := Kd.R_elem HO33.out z51 (0 : Int) p9 q9; obtain rfl := k51_openM hM9; have hx9_0 : w13.cell? ⟨go9, (0 : Int).toNat * 4, none⟩ = some (.int .i64 ((rd_T51 t29 0).f0)) := hcc9 0 _ rfl; have hx9_1 : w13.cell? ⟨go9, (0 : Int).toNat * 4 + 1, none⟩ = some (.int .i64 ((rd_T51 t29 0).f1)) := hcc9 1 _ rfl; have hx9_2 : w13.cell? ⟨go9, (0 : Int).toNat * 4 + 2, none⟩ = some (.bool ((rd_T51 t29 0).f2)) := hcc9 2 _ rfl; have hx9_3 : w13.cell? ⟨go9, (0 : Int).toNat * 4 + 3, none⟩ = some (.int .i64 ((rd_T51 t29 0).f3)) := hcc9 3 _ rfl; have hf9_0 : w13.frozen? ⟨go9, (0 : Int).toNat * 4, none⟩ = false := hfr9 0; have hf9_1 : w13.frozen? ⟨go9, (0 : Int).toNat * 4 + 1, none⟩ = false := hfr9 1; have hf9_2 : w13.frozen? ⟨go9, (0 : Int).toNat * 4 + 2, none⟩ = false := hfr9 2; have hf9_3 : w13.frozen? ⟨go9, (0 : Int).toNat * 4 + 3, none⟩ = false := hfr9 3; clear hcl9 hcc9 hfr9; (try clear hM9); (try rw [show ((0 : Int)).toNat = 0 from rfl] at hx9_0); (try simp only [Nat.reduceMul, Nat.zero_mul, Nat.zero_add, Nat.reduceAdd] at hx9_0); (try rw [show ((0 : Int)).toNat = 0 from rfl] at hf9_0); (try simp only [Nat.reduceMul, Nat.zero_mul, Nat.zero_add, Nat.reduceAdd] at hf9_0); (try rw [show ((0 : Int)).toNat = 0 from rfl] at hx9_1); (try simp only [Nat.reduceMul, Nat.zero_mul, Nat.zero_add, Nat.reduceAdd] at hx9_1); (try rw [show ((0 : Int)).toNat = 0 from rfl] at hf9_1); (try simp only [Nat.reduceMul, Nat.zero_mul, Nat.zero_add, Nat.reduceAdd] at hf9_1); (try rw [show ((0 : Int)).toNat = 0 from rfl] at hx9_2); (try simp only [Nat.reduceMul, Nat.zero_mul, Nat.zero_add, Nat.reduceAdd] at hx9_2); (try rw [show ((0 : Int)).toNat = 0 from rfl] at hf9_2); (try simp only [Nat.reduceMul, Nat.zero_mul, Nat.zero_add, Nat.reduceAdd] at hf9_2); (try rw [show ((0 : Int)).toNat = 0 from rfl] at hx9_3); (try simp only [Nat.reduceMul, Nat.zero_mul, Nat.zero_add, Nat.reduceAdd] at hx9_3); (try rw [show ((0 : Int)).toNat = 0 from rfl] at hf9_3); (try simp only [Nat.reduceMul, Nat.zero_mul, Nat.zero_add, Nat.reduceAdd] at hf9_3); replace p9 := eq_true p9; replace q9 := eq_true q9; have n_ := Aside0.mk (Kd.R_mono (ok' := (fun k_ => (P0_ k_ ∨ w.heap.size ≤ k_) ∧ some k_ ≠ (.slice Ao12 l0.length co12 : Value).ownBlock ∧ k_ ≠ gb28)) HO33.out (fun k_ hk => ⟨hk.1.1.1, ⟨hk.1.2, hk.2⟩⟩)); clear HO33; have HO33 := n_; clear n_; have HX15 := Aside0.mk (show Kd.R k51 51 w13 w0.heap.size (fun k_ => (P0_ k_ ∨ w.heap.size ≤ k_) ∧ some k_ ≠ (.slice Ao12 l0.length co12 : Value).ownBlock ∧ k_ ≠ gb28) (.slice (some ⟨go9, 0, none⟩) t29.length co9) t29 from (by (with_reducible repeat (first | apply Kd.R_alloc | apply Kd.R_drewN | apply Kd.R_drew)); exact HO33.out)); obtain ⟨ce15, hcl15, hM15, hcc15, hfr15⟩ := Kd.R_elem HX15.out z51 (0 : Int) (by omega) (by have h_ : (0 : Int) < ((t29.length : Int) : Int) := of_decide_eq_true za; first | exact h_ | (have e_ := (Kd.R_reads' HO33.out).1; omega) | simpa using h_); obtain rfl := k51_openM hM15; have HP15 := Kd.R_seg HX15.out (0 : Int) (by omega) (by have h_ : (0 : Int) < ((t29.length : Int) : Int) := of_decide_eq_true za; first | exact h_ | (have e_ := (Kd.R_reads' HO33.out).1; omega) | simpa using h_) (seg := [.int .i64 a1, .int .i64 0, .bool a2, .int .i64 a3]) (j := 0) hcl15 hcc15 (show 4 ≤ 4 from by decide) (x' := (⟨a1, 0, a2, a3⟩ : S51)) (k51_mkM _ _ _ (⟨a1, 0, a2, a3⟩ : S51) ) (fun _ hk => hk); have hx15_0 := hcc15 0 _ rfl; (try simp only [show (k51).sz = 4 from rfl, Nat.mul_one, Nat.add_zero] at hx15_0); (try rw [show ((0 : Int)).toNat = 0 from rfl] at hx15_0); (try simp only [Nat.reduceMul, Nat.zero_mul, Nat.zero_add, Nat.reduceAdd] at hx15_0); have hf15_0 := hfr15 0; (try simp only [show (k51).sz = 4 from rfl, Nat.mul_one, Nat.add_zero] at hf15_0); (try rw [show ((0 : Int)).toNat = 0 from rfl] at hf15_0); (try simp only [Nat.reduceMul, Nat.zero_mul, Nat.zero_add, Nat.reduceAdd] at hf15_0); have hx15_1 := hcc15 1 _ rfl; (try simp only [show (k51).sz = 4 from rfl, Nat.mul_one, Nat.add_zero] at hx15_1); (try rw [show ((0 : Int)).toNat = 0 from rfl] at hx15_1); (try simp only [Nat.reduceMul, Nat.zero_mul, Nat.zero_add, Nat.reduceAdd] at hx15_1); have hf15_1 := hfr15 1; (try simp only [show (k51).sz = 4 from rfl, Nat.mul_one, Nat.add_zero] at hf15_1); (try rw [show ((0 : Int)).toNat = 0 from rfl] at hf15_1); (try simp only [Nat.reduceMul, Nat.zero_mul, Nat.zero_add, Nat.reduceAdd] at hf15_1); have hx15_2 := hcc15 2 _ rfl; (try simp only [show (k51).sz = 4 from rfl, Nat.mul_one, Nat.add_zero] at hx15_2); (try rw [show ((0 : Int)).toNat = 0 from rfl] at hx15_2); (try simp only [Nat.reduceMul, Nat.zero_mul, Nat.zero_add, Nat.reduceAdd] at hx15_2); have hf15_2 := hfr15 2; (try simp only [show (k51).sz = 4 from rfl, Nat.mul_one, Nat.add_zero] at hf15_2); (try rw [show ((0 : Int)).toNat = 0 from rfl] at hf15_2); (try simp only [Nat.reduceMul, Nat.zero_mul, Nat.zero_add, Nat.reduceAdd] at hf15_2); have hx15_3 := hcc15 3 _ rfl; (try simp only [show (k51).sz = 4 from rfl, Nat.mul_one, Nat.add_zero] at hx15_3); (try rw [show ((0 : Int)).toNat = 0 from rfl] at hx15_3); (try simp only [Nat.reduceMul, Nat.zero_mul, Nat.zero_add, Nat.reduceAdd] at hx15_3); have hf15_3 := hfr15 3; (try simp only [show (k51).sz = 4 from rfl, Nat.mul_one, Nat.add_zero] at hf15_3); (try rw [show ((0 : Int)).toNat = 0 from rfl] at hf15_3); (try simp only [Nat.reduceMul, Nat.zero_mul, Nat.zero_add, Nat.reduceAdd] at hf15_3); clear hcl15 hcc15 hfr15; (try clear hM15)) | ((with_reducible refine gate_store (t := 51) (p := 24) rfl ?_); refine store_event (t := 51) (p := 24) (v := ?vo_w16) (w1 := ((((w13.setCell ⟨go9, 0, none⟩ (.int .i64 a1)).setCell ⟨go9, 1, none⟩ (.int .i64 0)).setCell ⟨go9, 2, none⟩ (.bool a2)).setCell ⟨go9, 3, none⟩ (.int .i64 a3))) ?hg ?ho ?hn ?hr ?_; (case ho => rfl); (case hg => rfl); (case hn => rfl); (case hr => first | (go_simp; done) | (go_simp; rfl)); intro w16 hw; have hg : w13.grownBy w16 (some go9) := (by rw [hw]; exact HP15.2); have hp_ : Kd.R k51 51 w16 w0.heap.size (fun k_ => (P0_ k_ ∨ w.heap.size ≤ k_) ∧ some k_ ≠ (.slice Ao12 l0.length co12 : Value).ownBlock ∧ k_ ≠ gb28) (.slice (some ⟨go9, 0, none⟩) t29.length co9) y35 := (by rw [hw, Ny35.out]; exact HP15.1); clear HP15; have n0_ := Aside0.mk (Kd.R_after (v := (.slice (some ⟨go9, 0, none⟩) t29.length co9)) (v1 := (.slice (some ⟨go9, 0, none⟩) t29.length co9)) (ok := (fun k_ => (P0_ k_ ∨ w.heap.size ≤ k_) ∧ k_ ≠ gb28)) (by (with_reducible repeat (first | apply Kd.R_alloc | apply Kd.R_drewN | apply Kd.R_drew)); exact HO0.out) hg (.inl rfl)); have n1_ := Aside0.mk (blk_grown (g := gb28) (o := .cells #[.int .i64 a1, .int .i64 0, .bool a2, .int .i64 a3] 51 (0, 0)) zk hg (Kd.R_away HO33.out (fun _ hk => hk.2.2))); have n2_ := Aside0.mk (hp_); have n3_ := Aside0.mk ((by rw [hw]; exact below_set (below_set (below_set (below_set (HB.out) GB9.out) GB9.out) GB9.out) GB9.out : Below w0.heap.size w0 w16)); have n4_ := Aside0.mk (Kept.of_grown (S := (fun k_ => P0_ k_)) hg (by repeat (first | (with_reducible first | exact HK.out | apply Kept.alloc | apply Kept.drewN | apply Kept.drew | refine Kept.setCell ?_ (.inr GW28.out) _) | exact HK.out)) (fun k_ e_ => (HO33.out.1 k_ e_).1)); clear HO0; clear BK28; clear HO33; clear HB; clear HK; have HO0 := n0_; have BK28 := n1_; have HO33 := n2_; have HB := n3_; have HK := n4_; clear n0_ n1_ n2_ n3_ n4_; clear hg hw hp_))
   go_ret2
   exact ⟨_, ze, by (with_reducible repeat (first | apply Kd.R_alloc | apply Kd.R_drewN | apply Kd.R_drew)); exact Kd.R_mono HO33.out (fun _ hk => hk.1), zb, by repeat (first | (with_reducible first | exact HK.out | apply Kept.alloc | apply Kept.drewN | apply Kept.drew | refine Kept.setCell ?_ (.inr GW28.out) _) | exact HK.out)⟩
  rw [if_neg c8] at H
  exact absurd H (by simp)
 rw [if_neg c6] at H
 have c6b0 : (t34 == a1) = false := beq_eq_false_iff_ne.mpr c6
 have c6b1 : (t34 != a1) = true := bne_iff_ne.mpr c6
 by_cases c17 : (l0.length : Int) ≥ 12
 ·rw [if_pos c17] at H
  have c17b0 : decide (12 ≤ (l0.length : Int)) = true := decide_eq_true c17
  have c17b1 : decide (12 ≤ l0.length) = true := decide_eq_true (by omega)
  clear c17
  simp only [Option.some.injEq, Prod.mk.injEq] at H
  obtain ⟨rfl, rfl⟩ := H
  go_enter Try.func41, Try.ntmps41
  go_wp2_with (first | ((with_reducible refine gate_dst (N := 10) rfl ?_); refine box_event ?hg (N := 10) ?hd (cs := #[.int .i64 0, .int .i64 0, .bool false, .int .i64 0]) (t := 51) ?hr ?_; (case hd => rfl); (case hg => rfl); (case hr => first | (go_simp; done) | (go_simp; rfl)); intro gb28 hg w18 hbox hb; have n0_ := Aside0.mk (Kd.R_below (Kd.R_elderB (by (with_reducible repeat (first | apply Kd.R_alloc | apply Kd.R_drewN | apply Kd.R_drew)); exact HO0.out) gb28 (Nat.le_of_eq hg.symm)) hb); have n1_ := Aside0.mk (Kept.below (S := (fun k_ => P0_ k_)) (by repeat (first | (with_reducible first | exact HK.out | apply Kept.alloc | apply Kept.drewN | apply Kept.drew) | exact HK.out)) hb); have n2_ := Aside0.mk (below_step zb hb); have n3_ := Aside0.mk (hbox); have n4_ := Aside0.mk ((by rw [hg]; exact (by first | exact HK.out.1 | exact (show Kept w _ (fun k_ => P0_ k_) from by repeat (first | (with_reducible first | exact HK.out | apply Kept.alloc | apply Kept.drewN | apply Kept.drew) | exact HK.out)).1) : w.heap.size ≤ gb28)); have n5_ := Aside0.mk ((by rw [hg]; exact (below_size zb) : w0.heap.size ≤ gb28)); clear HO0; clear HK; clear HB; have HO0 := n0_; have HK := n1_; have HB := n2_; have BK28 := n3_; have GW28 := n4_; have GE28 := n5_; clear n0_ n1_ n2_ n3_ n4_ n5_; clear hb hbox hg; obtain ⟨hcz19_0, hcz19_1, hcz19_2, hcz19_3, hfz19_0, hfz19_1, hfz19_2, hfz19_3⟩ := Lv.blks4 BK28.out; obtain ⟨Ao20, co20, eo20⟩ := Kd.R_slice HO0.out; subst eo20) | ((with_reducible refine gate_callee (f := 36) rfl ?_); refine goesL_ (some 17) rfl rfl Try.func36 (by kernel_rfl) rfl #[.slice Ao20 l0.length co20] rfl zm ?_; (with_reducible refine (spec_l5Writer.calls _ _ l0 t34 _ ?side1 ?side2 A5.out).mono ?_); (case side1 => refine (Kd.R_reads' (e := 51) (base := w0.heap.size) (ok := fun k_ => ((P0_ k_ ∨ w.heap.size ≤ k_) ∧ k_ ≠ gb28)) (n := l0.length) (c := co20) ?_).2.2; exact (by (with_reducible repeat (first | apply Kd.R_alloc | apply Kd.R_drewN | apply Kd.R_drew)); exact (Kd.R_mono (Kd.R_far (p := ⟨gb28, 3, none⟩) (Kd.R_far (p := ⟨gb28, 2, none⟩) (Kd.R_far (p := ⟨gb28, 1, none⟩) (Kd.R_far (p := ⟨gb28, 0, none⟩) (Kd.R_mono HO0.out (fun k_ hk => (⟨hk, hk.2⟩ : _ ∧ k_ ≠ gb28))) (fun _ hk => hk.2) (.int .i64 a1)) (fun _ hk => hk.2) (.int .i64 0)) (fun _ hk => hk.2) (.bool a2)) (fun _ hk => hk.2) (.int .i64 a3)) (fun _ h_ => h_.1)))); (case side2 => exact (Kd.R_reads' HO0.out).2.1); rintro e w' ⟨rfl, ⟨nd, rfl⟩⟩; refine ⟨_, rfl, ?_⟩))
  go_ret2
  exact ⟨_, ze, by (with_reducible repeat (first | apply Kd.R_alloc | apply Kd.R_drewN | apply Kd.R_drew)); exact Kd.R_mono (Kd.R_far (p := ⟨gb28, 3, none⟩) (Kd.R_far (p := ⟨gb28, 2, none⟩) (Kd.R_far (p := ⟨gb28, 1, none⟩) (Kd.R_far (p := ⟨gb28, 0, none⟩) (Kd.R_mono HO0.out (fun k_ hk => (⟨hk, hk.2⟩ : _ ∧ k_ ≠ gb28))) (fun _ hk => hk.2) (.int .i64 a1)) (fun _ hk => hk.2) (.int .i64 0)) (fun _ hk => hk.2) (.bool a2)) (fun _ hk => hk.2) (.int .i64 a3)) (fun _ hk => hk.1.1), zb, by repeat (first | (with_reducible first | exact HK.out | apply Kept.alloc | apply Kept.drewN | apply Kept.drew | refine Kept.setCell ?_ (.inr GW28.out) _) | exact HK.out)⟩
 rw [if_neg c17] at H
 have c17b0 : decide (12 ≤ (l0.length : Int)) = false := decide_eq_false c17
 have c17b1 : decide (12 ≤ l0.length) = false := decide_eq_false (by omega)
 clear c17
 obtain ⟨y30, hy30⟩ : ∃ y_ : List (S51), y_ = (([(⟨a1, 0, a2, a3⟩ : S51)] : List (S51))) := ⟨_, rfl⟩
 replace H : (if y30.length + l0.length < 4398046511104 then (some ((y30 ++ l0), 0)) else (none)) = some (r1, r2) := by first | (rw [hy30]; with_reducible exact H) | (have H2_ := (Option.bind_some _ _).symm.trans H; rw [hy30]; with_reducible exact H2_) | (have H2_ := (Option.bind_some _ _).symm.trans H; with_reducible exact H2_) | with_reducible exact H | (rw [hy30]; exact H) | exact H
 have Ny30 := Aside0.mk hy30
 clear hy30
 by_cases c21 : y30.length + l0.length < 4398046511104
 ·rw [if_pos c21] at H
  have LMc21 := Aside0.mk c21
  clear c21
  obtain ⟨y37, hy37⟩ : ∃ y_ : List (S51), y_ = (y30 ++ l0) := ⟨_, rfl⟩
  replace H : (some (y37, 0)) = some (r1, r2) := by first | (rw [hy37]; with_reducible exact H) | (have H2_ := (Option.bind_some _ _).symm.trans H; rw [hy37]; with_reducible exact H2_) | (have H2_ := (Option.bind_some _ _).symm.trans H; with_reducible exact H2_) | with_reducible exact H | (rw [hy37]; exact H) | exact H
  have Ny37 := Aside0.mk hy37
  clear hy37
  simp only [Option.some.injEq, Prod.mk.injEq] at H
  obtain ⟨rfl, rfl⟩ := H
  go_enter Try.func41, Try.ntmps41
  go_wp2_with (first | ((with_reducible refine gate_dst (N := 10) rfl ?_); refine box_event ?hg (N := 10) ?hd (cs := #[.int .i64 0, .int .i64 0, .bool false, .int .i64 0]) (t := 51) ?hr ?_; (case hd => rfl); (case hg => rfl); (case hr => first | (go_simp; done) | (go_simp; rfl)); intro gb28 hg w22 hbox hb; have n0_ := Aside0.mk (Kd.R_below (Kd.R_elderB (by (with_reducible repeat (first | apply Kd.R_alloc | apply Kd.R_drewN | apply Kd.R_drew)); exact HO0.out) gb28 (Nat.le_of_eq hg.symm)) hb); have n1_ := Aside0.mk (Kept.below (S := (fun k_ => P0_ k_)) (by repeat (first | (with_reducible first | exact HK.out | apply Kept.alloc | apply Kept.drewN | apply Kept.drew) | exact HK.out)) hb); have n2_ := Aside0.mk (below_step zb hb); have n3_ := Aside0.mk (hbox); have n4_ := Aside0.mk ((by rw [hg]; exact (by first | exact HK.out.1 | exact (show Kept w _ (fun k_ => P0_ k_) from by repeat (first | (with_reducible first | exact HK.out | apply Kept.alloc | apply Kept.drewN | apply Kept.drew) | exact HK.out)).1) : w.heap.size ≤ gb28)); have n5_ := Aside0.mk ((by rw [hg]; exact (below_size zb) : w0.heap.size ≤ gb28)); clear HO0; clear HK; clear HB; have HO0 := n0_; have HK := n1_; have HB := n2_; have BK28 := n3_; have GW28 := n4_; have GE28 := n5_; clear n0_ n1_ n2_ n3_ n4_ n5_; clear hb hbox hg; obtain ⟨hcz23_0, hcz23_1, hcz23_2, hcz23_3, hfz23_0, hfz23_1, hfz23_2, hfz23_3⟩ := Lv.blks4 BK28.out; obtain ⟨Ao24, co24, eo24⟩ := Kd.R_slice HO0.out; subst eo24) | ((with_reducible refine gate_callee (f := 36) rfl ?_); refine goesL_ (some 17) rfl rfl Try.func36 (by kernel_rfl) rfl #[.slice Ao24 l0.length co24] rfl zm ?_; (with_reducible refine (spec_l5Writer.calls _ _ l0 t34 _ ?side1 ?side2 A5.out).mono ?_); (case side1 => refine (Kd.R_reads' (e := 51) (base := w0.heap.size) (ok := fun k_ => ((P0_ k_ ∨ w.heap.size ≤ k_) ∧ k_ ≠ gb28)) (n := l0.length) (c := co24) ?_).2.2; exact (by (with_reducible repeat (first | apply Kd.R_alloc | apply Kd.R_drewN | apply Kd.R_drew)); exact (Kd.R_mono (Kd.R_far (p := ⟨gb28, 3, none⟩) (Kd.R_far (p := ⟨gb28, 2, none⟩) (Kd.R_far (p := ⟨gb28, 1, none⟩) (Kd.R_far (p := ⟨gb28, 0, none⟩) (Kd.R_mono HO0.out (fun k_ hk => (⟨hk, hk.2⟩ : _ ∧ k_ ≠ gb28))) (fun _ hk => hk.2) (.int .i64 a1)) (fun _ hk => hk.2) (.int .i64 0)) (fun _ hk => hk.2) (.bool a2)) (fun _ hk => hk.2) (.int .i64 a3)) (fun _ h_ => h_.1)))); (case side2 => exact (Kd.R_reads' HO0.out).2.1); rintro e w' ⟨rfl, ⟨nd, rfl⟩⟩; refine ⟨_, rfl, ?_⟩) | ((with_reducible refine gate_dst (N := 31) rfl ?_); refine Kd.R_lit k51 _ 51 ?hg (N := 31) ?hd (xs := ([(⟨a1, 0, a2, a3⟩ : S51)] : List (S51))) (inner := [.int .i64 a1, .int .i64 0, .bool a2, .int .i64 a3]) (ok := fun _ => True) (okp := fun _ => True) ?hr ?hp (fun _ hk => hk) trivial (Below.refl _ _) (Nat.le_refl _) (by simp) ?_; (case hd => rfl); (case hg => rfl); (case hr => first | (go_simp; done) | (go_simp; rfl)); (case hp => exact (Reps.c4 (show Kd.M k51 _ _ _ (⟨a1, 0, a2, a3⟩ : S51) [.int .i64 a1, .int .i64 0, .bool a2, .int .i64 a3] from (k51_mkM _ _ _ (⟨a1, 0, a2, a3⟩ : S51) )) (Reps.none _ _))); intro v39 w25 ho26 hb hg_ hnew_; clear hg_ hnew_; (first | rw [← Ny30.out] at ho26 | (simp only [Int.reduceToNat] at ho26; rw [← Ny30.out] at ho26)); have n0_ := Aside0.mk (Kd.R_elder' (by (with_reducible repeat (first | apply Kd.R_alloc | apply Kd.R_drewN | apply Kd.R_drew)); exact (Kd.R_mono (Kd.R_far (p := ⟨gb28, 3, none⟩) (Kd.R_far (p := ⟨gb28, 2, none⟩) (Kd.R_far (p := ⟨gb28, 1, none⟩) (Kd.R_far (p := ⟨gb28, 0, none⟩) (Kd.R_mono HO0.out (fun k_ hk => (⟨hk, hk.2⟩ : _ ∧ k_ ≠ gb28))) (fun _ hk => hk.2) (.int .i64 a1)) (fun _ hk => hk.2) (.int .i64 0)) (fun _ hk => hk.2) (.bool a2)) (fun _ hk => hk.2) (.int .i64 a3)) (fun _ h_ => h_.1))) (Kd.R_base ho26) hb); have n1_ := Aside0.mk (Kd.R_lower (Kd.R_newB (Kd.R_new' (Kd.R_newM (M := fun k_ => (P0_ k_ ∨ w.heap.size ≤ k_)) ho26 (show Kept w _ (fun k_ => P0_ k_) from by repeat (first | (with_reducible first | exact HK.out | apply Kept.alloc | apply Kept.drewN | apply Kept.drew | refine Kept.setCell ?_ (.inr GW28.out) _) | exact HK.out)).1 (fun k_ h_ => .inr h_)) (Kd.R_lt (by (with_reducible repeat (first | apply Kd.R_alloc | apply Kd.R_drewN | apply Kd.R_drew)); exact (Kd.R_mono (Kd.R_far (p := ⟨gb28, 3, none⟩) (Kd.R_far (p := ⟨gb28, 2, none⟩) (Kd.R_far (p := ⟨gb28, 1, none⟩) (Kd.R_far (p := ⟨gb28, 0, none⟩) (Kd.R_mono HO0.out (fun k_ hk => (⟨hk, hk.2⟩ : _ ∧ k_ ≠ gb28))) (fun _ hk => hk.2) (.int .i64 a1)) (fun _ hk => hk.2) (.int .i64 0)) (fun _ hk => hk.2) (.bool a2)) (fun _ hk => hk.2) (.int .i64 a3)) (fun _ h_ => h_.1))))) (g := gb28) (o := .cells #[.int .i64 a1, .int .i64 0, .bool a2, .int .i64 a3] 51 (0, 0)) (by (with_reducible repeat (first | refine blk_drewN ?_ _ | refine blk_drew ?_ | refine blk_alloc ?_ _)); refine blk_put (cs := #[.int .i64 a1, .int .i64 0, .bool a2, .int .i64 0]) ?_ 3 _ rfl; (with_reducible repeat (first | refine blk_drewN ?_ _ | refine blk_drew ?_ | refine blk_alloc ?_ _)); refine blk_put (cs := #[.int .i64 a1, .int .i64 0, .bool false, .int .i64 0]) ?_ 2 _ rfl; (with_reducible repeat (first | refine blk_drewN ?_ _ | refine blk_drew ?_ | refine blk_alloc ?_ _)); refine blk_put (cs := #[.int .i64 a1, .int .i64 0, .bool false, .int .i64 0]) ?_ 1 _ rfl; (with_reducible repeat (first | refine blk_drewN ?_ _ | refine blk_drew ?_ | refine blk_alloc ?_ _)); refine blk_put (cs := #[.int .i64 0, .int .i64 0, .bool false, .int .i64 0]) ?_ 0 _ rfl; (with_reducible repeat (first | refine blk_drewN ?_ _ | refine blk_drew ?_ | refine blk_alloc ?_ _)); exact BK28.out)) (below_size zb)); have n2_ := Aside0.mk (blk_below (g := gb28) (o := .cells #[.int .i64 a1, .int .i64 0, .bool a2, .int .i64 a3] 51 (0, 0)) (by (with_reducible repeat (first | refine blk_drewN ?_ _ | refine blk_drew ?_ | refine blk_alloc ?_ _)); refine blk_put (cs := #[.int .i64 a1, .int .i64 0, .bool a2, .int .i64 0]) ?_ 3 _ rfl; (with_reducible repeat (first | refine blk_drewN ?_ _ | refine blk_drew ?_ | refine blk_alloc ?_ _)); refine blk_put (cs := #[.int .i64 a1, .int .i64 0, .bool false, .int .i64 0]) ?_ 2 _ rfl; (with_reducible repeat (first | refine blk_drewN ?_ _ | refine blk_drew ?_ | refine blk_alloc ?_ _)); refine blk_put (cs := #[.int .i64 a1, .int .i64 0, .bool false, .int .i64 0]) ?_ 1 _ rfl; (with_reducible repeat (first | refine blk_drewN ?_ _ | refine blk_drew ?_ | refine blk_alloc ?_ _)); refine blk_put (cs := #[.int .i64 0, .int .i64 0, .bool false, .int .i64 0]) ?_ 0 _ rfl; (with_reducible repeat (first | refine blk_drewN ?_ _ | refine blk_drew ?_ | refine blk_alloc ?_ _)); exact BK28.out) hb); have n3_ := Aside0.mk (Kept.below (S := (fun k_ => P0_ k_)) (by repeat (first | (with_reducible first | exact HK.out | apply Kept.alloc | apply Kept.drewN | apply Kept.drew | refine Kept.setCell ?_ (.inr GW28.out) _) | exact HK.out)) hb); have n4_ := Aside0.mk (below_step zb hb); clear HO0; clear BK28; clear HK; clear HB; have HO0 := n0_; have HO38 := n1_; have BK28 := n2_; have HK := n3_; have HB := n4_; clear n0_ n1_ n2_ n3_ n4_; clear hb ho26) | ((with_reducible refine gate_builtin (b := .append) (xs := #[.tmp 31, .tmp 32]) rfl ?_); at_builtin; refine Kd.R_append_rows k51 (w0 := w0) w0.heap.size rfl (.tmp 31) (.tmp 32) 24 51 (.agg #[(.int .i64 0), (.int .i64 0), (.bool false), (.int .i64 0)]) 32 rfl Try.underlying24 info51 rfl (by decide) (by omega) v39 y30 l0 _ _ _ (fun k_ => (P0_ k_ ∨ w.heap.size ≤ k_) ∧ some k_ ≠ (.slice Ao24 l0.length co24 : Value).ownBlock ∧ k_ ≠ gb28) (fun _ => False) rfl rfl ?aO ?aR (fun _ _ h => h) (fun _ h => h.elim) ?aF ?aB ?aS ?aL ?_; (case aR => repeat (first | exact (Kd.R_reads' HO0.out).2.2 | (with_reducible first | refine Kd.C_alloc ?_ _ | refine Kd.C_drewN ?_ _ | refine Kd.C_drew ?_))); (case aB => exact zb); (case aF => exact (fun k_ hk => ⟨(.inr (Nat.le_trans (by first | exact HK.out.1 | exact (show Kept w _ (fun k_ => P0_ k_) from by repeat (first | (with_reducible first | exact HK.out | apply Kept.alloc | apply Kept.drewN | apply Kept.drew | refine Kept.setCell ?_ (.inr GW28.out) _) | exact HK.out)).1) hk)), Kd.fresh' (Kd.R_lt (by (with_reducible repeat (first | apply Kd.R_alloc | apply Kd.R_drewN | apply Kd.R_drew)); exact HO0.out)) k_ hk, Kd.freshB (g := gb28) (o := .cells #[.int .i64 a1, .int .i64 0, .bool a2, .int .i64 a3] 51 (0, 0)) zk k_ hk⟩)); (case aO => exact (by (with_reducible repeat (first | apply Kd.R_alloc | apply Kd.R_drewN | apply Kd.R_drew)); exact Kd.R_mono HO38.out (fun _ hk => ⟨hk.1.1.1, ⟨hk.1.2, hk.2⟩⟩))); (case aS => exact (below_size zb)); (case aL => have := LMc21.out; omega); intro v43 w27 ho hb hg hat; rw [← Ny37.out] at ho; have n0_ := Aside0.mk (Kd.R_after (ok := (fun k_ => (P0_ k_ ∨ w.heap.size ≤ k_) ∧ k_ ≠ gb28)) (by (with_reducible repeat (first | apply Kd.R_alloc | apply Kd.R_drewN | apply Kd.R_drew)); exact HO0.out) hg hat); have n1_ := Aside0.mk (blk_grown (g := gb28) (o := .cells #[.int .i64 a1, .int .i64 0, .bool a2, .int .i64 a3] 51 (0, 0)) zk hg (Kd.R_away HO38.out (fun _ hk => hk.2))); have n2_ := Aside0.mk (hb); have n3_ := Aside0.mk (Kept.of_grown (S := (fun k_ => P0_ k_)) hg (by repeat (first | (with_reducible first | exact HK.out | apply Kept.alloc | apply Kept.drewN | apply Kept.drew | refine Kept.setCell ?_ (.inr GW28.out) _) | exact HK.out)) (fun k_ e_ => (HO38.out.1 k_ e_).1.1.1)); have n4_ := Aside0.mk (ho); clear HO0; clear BK28; clear HB; clear HK; clear HO38; have HO0 := n0_; have BK28 := n1_; have HB := n2_; have HK := n3_; have HO40 := n4_; clear n0_ n1_ n2_ n3_ n4_; clear ho hb hg hat))
  go_ret2
  exact ⟨_, ze, by (with_reducible repeat (first | apply Kd.R_alloc | apply Kd.R_drewN | apply Kd.R_drew)); exact Kd.R_mono HO40.out (fun _ hk => hk.1), zb, by repeat (first | (with_reducible first | exact HK.out | apply Kept.alloc | apply Kept.drewN | apply Kept.drew | refine Kept.setCell ?_ (.inr GW28.out) _) | exact HK.out)⟩
 rw [if_neg c21] at H
 exact absurd H (by simp)
set_option maxHeartbeats 8000000 in
set_option maxRecDepth 100000 in
theorem spec_PushVersion.calls (k : Nat) (P0_ : Nat → Prop) (u9000_ : Value) (l0 : List (S51)) (a1_0 : Int) (a1_1 : Int) (a2 : Bool) (a3 : Int) (r1 : Int) (r2 : List (S51)) (w0 w : World) (hB : Below w0.heap.size w0 w) (ho0 : Kd.R k51 51 w w0.heap.size P0_ u9000_ l0) (h : spec_PushVersion.f k l0 a1_0 a1_1 a2 a3 = some (r1, r2)) :
 Calls Try.prog 14 #[u9000_, .agg #[.int .i64 a1_0, .int .i64 a1_1], .bool a2, .int .i64 a3] w fun e w' => ∃ v1_ : Value, e = .returned (.agg #[.int .i64 r1, v1_]) ∧ Kd.R k51 51 w' w0.heap.size (fun k_ => (P0_ k_ ∨ w.heap.size ≤ k_)) v1_ r2 ∧ Below w0.heap.size w0 w' ∧ Kept w w' (fun k_ => P0_ k_) := by
 have hu32 := Try.underlying32
 have hu28 := Try.underlying28
 have HO0 := Aside0.mk (show Kd.R k51 51 w w0.heap.size (fun k_ => (P0_ k_ ∨ w.heap.size ≤ k_)) u9000_ l0 from Kd.R_mono ho0 (fun k_ hk => (.inl hk)))
 have HK := Aside0.mk (Kept.refl w (fun k_ => P0_ k_))
 have HW0 := Aside0.mk hB.size
 have HB := Aside0.mk hB
 clear hB
 have H : ((spec_l5Asked.f k l0 a1_0 a1_1).bind fun t57 => (if t57 = 0 then ((spec_l1Value.f a3).bind fun t61 => (if t61 = true then (if a2 = true then (spec_PushVersion.j0 k l0 a2 a3 (a3 != 0) a1_0 a1_1) else (spec_PushVersion.j0 k l0 a2 a3 false a1_0 a1_1)) else (some (3, ([] : List (S51)))))) else (some (t57, ([] : List (S51)))))) = some (r1, r2) := h
 clear h
 replace H := Option.bind_eq_some_iff.mp H
 obtain ⟨t57, A50, H⟩ := H
 replace H : (if t57 = 0 then ((spec_l1Value.f a3).bind fun t61 => (if t61 = true then (if a2 = true then (spec_PushVersion.j0 k l0 a2 a3 (a3 != 0) a1_0 a1_1) else (spec_PushVersion.j0 k l0 a2 a3 false a1_0 a1_1)) else (some (3, ([] : List (S51)))))) else (some (t57, ([] : List (S51))))) = some (r1, r2) := H
 have A5 := Aside0.mk A50
 clear A50
 by_cases c6 : t57 = 0
 ·rw [if_pos c6] at H
  have c6b0 : (t57 == 0) = true := beq_iff_eq.mpr c6
  have c6b1 : (t57 != 0) = false := bne_eq_false_iff_eq.mpr c6
  clear c6
  replace H := Option.bind_eq_some_iff.mp H
  obtain ⟨t61, A70, H⟩ := H
  replace H : (if t61 = true then (if a2 = true then (spec_PushVersion.j0 k l0 a2 a3 (a3 != 0) a1_0 a1_1) else (spec_PushVersion.j0 k l0 a2 a3 false a1_0 a1_1)) else (some (3, ([] : List (S51))))) = some (r1, r2) := H
  have A7 := Aside0.mk A70
  clear A70
  by_cases c8 : t61 = true
  ·subst c8
   have H1 : (if a2 = true then (spec_PushVersion.j0 k l0 a2 a3 (a3 != 0) a1_0 a1_1) else (spec_PushVersion.j0 k l0 a2 a3 false a1_0 a1_1)) = some (r1, r2) := by rw [if_pos rfl] at H; exact H
   clear H
   have H := H1
   clear H1
   have HC9 := Aside0.mk H
   clear H
   go_enter Try.func14, Try.ntmps14
   go_upto_region 6 with (first | ((with_reducible refine gate_dst (N := 5) rfl ?_); refine box_event ?hg (N := 5) ?hd (cs := #[.int .i64 a1_0, .int .i64 a1_1]) (t := 32) ?hr ?_; (case hd => rfl); (case hg => rfl); (case hr => first | (go_simp; done) | (go_simp; rfl)); intro gb55 hg w10 hbox hb; have n0_ := Aside0.mk (Kd.R_below (by (with_reducible repeat (first | apply Kd.R_alloc | apply Kd.R_drewN | apply Kd.R_drew)); exact HO0.out) hb); have n1_ := Aside0.mk (Kept.below (S := (fun k_ => P0_ k_)) (by repeat (first | (with_reducible first | exact HK.out | apply Kept.alloc | apply Kept.drewN | apply Kept.drew) | exact HK.out)) hb); have n2_ := Aside0.mk (below_step zb hb); have n3_ := Aside0.mk (hbox); have n4_ := Aside0.mk ((by rw [hg]; exact (by first | exact HK.out.1 | exact (show Kept w _ (fun k_ => P0_ k_) from by repeat (first | (with_reducible first | exact HK.out | apply Kept.alloc | apply Kept.drewN | apply Kept.drew) | exact HK.out)).1) : w.heap.size ≤ gb55)); have n5_ := Aside0.mk ((by rw [hg]; exact (below_size zb) : w0.heap.size ≤ gb55)); clear HO0; clear HK; clear HB; have HO0 := n0_; have HK := n1_; have HB := n2_; have BK55 := n3_; have GW55 := n4_; have GE55 := n5_; clear n0_ n1_ n2_ n3_ n4_ n5_; clear hb hbox hg) | ((with_reducible refine gate_dst (N := 8) rfl ?_); refine box_event ?hg (N := 8) ?hd (cs := #[.int .i64 0, .slice none 0 0]) (t := 28) ?hr ?_; (case hd => rfl); (case hg => rfl); (case hr => first | (go_simp; done) | (go_simp; rfl)); intro gb56 hg w11 hbox hb; have n0_ := Aside0.mk (Kd.R_below (by (with_reducible repeat (first | apply Kd.R_alloc | apply Kd.R_drewN | apply Kd.R_drew)); exact HO0.out) hb); have n1_ := Aside0.mk (blk_below (g := gb55) (o := .cells #[.int .i64 a1_0, .int .i64 a1_1] 32 (0, 0)) zk hb); have n2_ := Aside0.mk (Kept.below (S := (fun k_ => P0_ k_)) (by repeat (first | (with_reducible first | exact HK.out | apply Kept.alloc | apply Kept.drewN | apply Kept.drew | refine Kept.setCell ?_ (.inr GW55.out) _) | exact HK.out)) hb); have n3_ := Aside0.mk (below_step zb hb); have n4_ := Aside0.mk (hbox); have n5_ := Aside0.mk ((by rw [hg]; exact (by first | exact HK.out.1 | exact (show Kept w _ (fun k_ => P0_ k_) from by repeat (first | (with_reducible first | exact HK.out | apply Kept.alloc | apply Kept.drewN | apply Kept.drew | refine Kept.setCell ?_ (.inr GW55.out) _) | exact HK.out)).1) : w.heap.size ≤ gb56)); have n6_ := Aside0.mk ((by rw [hg]; exact (below_size zb) : w0.heap.size ≤ gb56)); have n7_ := Aside0.mk ((by rw [hg]; exact Nat.ne_of_lt (blk_lt (g := gb55) (o := .cells #[.int .i64 a1_0, .int .i64 a1_1] 32 (0, 0)) zk) : gb55 ≠ gb56)); have n8_ := Aside0.mk ((by rw [hg]; exact Nat.ne_of_gt (blk_lt (g := gb55) (o := .cells #[.int .i64 a1_0, .int .i64 a1_1] 32 (0, 0)) zk) : gb56 ≠ gb55)); clear HO0; clear BK55; clear HK; clear HB; have HO0 := n0_; have BK55 := n1_; have HK := n2_; have HB := n3_; have BK56 := n4_; have GW56 := n5_; have GE56 := n6_; have NB443_444 := n7_; have NB444_443 := n8_; clear n0_ n1_ n2_ n3_ n4_ n5_ n6_ n7_ n8_; clear hb hbox hg; have hnb12 := NB443_444.out; have hnc12 := NB444_443.out; obtain ⟨hcz13_0, hcz13_1, hfz13_0, hfz13_1⟩ := Lv.blks2 BK55.out; obtain ⟨Ao14, co14, eo14⟩ := Kd.R_slice HO0.out; subst eo14) | ((with_reducible refine gate_callee (f := 38) rfl ?_); refine goesL_ (some 15) rfl rfl Try.func38 (by kernel_rfl) rfl #[.slice Ao14 l0.length co14, .agg #[.int .i64 a1_0, .int .i64 a1_1]] rfl zm ?_; (with_reducible refine (spec_l5Asked.calls k _ _ l0 a1_0 a1_1 t57 _ ?side1 ?side2 A5.out).mono ?_); (case side1 => repeat (first | exact (Kd.R_reads' HO0.out).2.2 | (with_reducible first | refine Kd.C_alloc ?_ _ | refine Kd.C_drewN ?_ _ | refine Kd.C_drew ?_))); (case side2 => exact (Kd.R_reads' HO0.out).2.1); rintro e w15 ⟨rfl, hb⟩; refine ⟨_, rfl, ?_⟩; have n0_ := Aside0.mk (Kd.R_below (by (with_reducible repeat (first | apply Kd.R_alloc | apply Kd.R_drewN | apply Kd.R_drew)); exact HO0.out) hb); have n1_ := Aside0.mk (blk_below (g := gb55) (o := .cells #[.int .i64 a1_0, .int .i64 a1_1] 32 (0, 0)) zk hb); have n2_ := Aside0.mk (blk_below (g := gb56) (o := .cells #[.int .i64 0, .slice none 0 0] 28 (0, 0)) zk hb); have n3_ := Aside0.mk (Kept.below (S := (fun k_ => P0_ k_)) (by repeat (first | (with_reducible first | exact HK.out | apply Kept.alloc | apply Kept.drewN | apply Kept.drew | refine Kept.setCell ?_ (.inr GW55.out) _ | refine Kept.setCell ?_ (.inr GW56.out) _) | exact HK.out)) hb); have n4_ := Aside0.mk (below_step zb hb); clear HO0; clear BK55; clear BK56; clear HK; clear HB; have HO0 := n0_; have BK55 := n1_; have BK56 := n2_; have HK := n3_; have HB := n4_; clear n0_ n1_ n2_ n3_ n4_; (try clear hb); (try clear hb2); (try clear hk); (try clear hi)) | ((with_reducible refine gate_callee (f := 39) rfl ?_); refine goesL_ (some 21) rfl rfl Try.func39 (by kernel_rfl) rfl #[.int .i64 a3] rfl zm ?_; (with_reducible refine (spec_l1Value.calls a3 true _ A7.out).mono ?_); rintro e w' ⟨rfl, ⟨nd, rfl⟩⟩; refine ⟨_, rfl, ?_⟩))
   (try simp only [Act.put, List.setIfInBounds_toArray, List.set_cons_zero, List.set_cons_succ])
   go_cut [28] (fun v28 wc => ∃ (kq : Nat) (x28_8 : Bool), v28 = .bool x28_8 ∧ Aside0 (spec_PushVersion.j0 kq l0 a2 a3 x28_8 a1_0 a1_1 = some (r1, r2)) ∧ Aside0 (kq ≤ k) ∧ Aside0 (Kd.R k51 51 wc w0.heap.size (fun k_ => (P0_ k_ ∨ w.heap.size ≤ k_)) (.slice Ao14 l0.length co14) l0) ∧ Aside0 (wc.heap[gb55]? = some (.cells #[.int .i64 a1_0, .int .i64 a1_1] 32 (0, 0))) ∧ Aside0 (wc.heap[gb56]? = some (.cells #[.int .i64 0, (.slice none 0 0)] 28 (0, 0))) ∧ Aside0 (Kept w wc (fun k_ => P0_ k_)) ∧ Aside0 (Below w0.heap.size w0 wc))
   case first =>
    have H := HC9.out
    clear HC9
    by_cases c16 : a2 = true
    ·subst c16
     have H1 : (spec_PushVersion.j0 k l0 true a3 (a3 != 0) a1_0 a1_1) = some (r1, r2) := by rw [if_pos rfl] at H; exact H
     clear H
     have H := H1
     clear H1
     have H' := Aside0.mk H
     clear H
     go_wp2
     go_meet
     case rel => exact ⟨_, ((a3 != 0)), zs, H', ⟨by first | omega | exact Nat.le_refl _⟩, ⟨by (with_reducible repeat (first | apply Kd.R_alloc | apply Kd.R_drewN | apply Kd.R_drew)); exact HO0.out⟩, ⟨by (with_reducible repeat (first | refine blk_drewN ?_ _ | refine blk_drew ?_ | refine blk_alloc ?_ _)); exact BK55.out⟩, ⟨by (with_reducible repeat (first | refine blk_drewN ?_ _ | refine blk_drew ?_ | refine blk_alloc ?_ _)); exact BK56.out⟩, ⟨by repeat (first | (with_reducible first | exact HK.out | apply Kept.alloc | apply Kept.drewN | apply Kept.drew | refine Kept.setCell ?_ (.inr GW55.out) _ | refine Kept.setCell ?_ (.inr GW56.out) _) | exact HK.out)⟩, ⟨zb⟩⟩
    replace c16 := Bool.eq_false_iff.mpr c16
    subst c16
    have H1 : (spec_PushVersion.j0 k l0 false a3 false a1_0 a1_1) = some (r1, r2) := by rw [if_neg (show ¬ (false = true) by decide)] at H; exact H
    clear H
    have H := H1
    clear H1
    have H' := Aside0.mk H
    clear H
    go_wp2
    go_meet
    case rel => exact ⟨_, (false), zs, H', ⟨by first | omega | exact Nat.le_refl _⟩, ⟨by (with_reducible repeat (first | apply Kd.R_alloc | apply Kd.R_drewN | apply Kd.R_drew)); exact HO0.out⟩, ⟨by (with_reducible repeat (first | refine blk_drewN ?_ _ | refine blk_drew ?_ | refine blk_alloc ?_ _)); exact BK55.out⟩, ⟨by (with_reducible repeat (first | refine blk_drewN ?_ _ | refine blk_drew ?_ | refine blk_alloc ?_ _)); exact BK56.out⟩, ⟨by repeat (first | (with_reducible first | exact HK.out | apply Kept.alloc | apply Kept.drewN | apply Kept.drew | refine Kept.setCell ?_ (.inr GW55.out) _ | refine Kept.setCell ?_ (.inr GW56.out) _) | exact HK.out)⟩, ⟨zb⟩⟩
   case rest =>
    clear HC9
    try clear c1
    try clear p2
    try clear c3
    try clear c6
    try clear c6b0
    try clear c6b1
    try clear c8
    try clear c12
    try clear c14
    try clear c16
    try clear hcz13_0 hcz13_1 hfz13_0 hfz13_1
    obtain ⟨kq, x28_8, rfl, HA, HJ8, HO_0, BK55, BK56, HK, HB⟩ := hcut
    cases kq with
    | zero => exact absurd HA.out (by simp [spec_PushVersion.j0])
    | succ kj8 =>
     have H := HA.out
     clear HA
     simp only [spec_PushVersion.j0] at H
     by_cases c17 : x28_8 = true
     ·subst c17
      have H1 : (some (1, ([] : List (S51)))) = some (r1, r2) := by rw [if_pos rfl] at H; exact H
      clear H
      have H := H1
      clear H1
      simp only [Option.some.injEq, Prod.mk.injEq] at H
      obtain ⟨rfl, rfl⟩ := H
      have hnb18 := NB444_443.out
      have hnc18 := NB443_444.out
      obtain ⟨hcz19_0, hcz19_1, hfz19_0, hfz19_1⟩ := Lv.blks2 BK56.out
      go_wp2
      refine bodyPost_ret (results_cell_row rfl _ _ gb56 28 #[.int .i64 1, .slice none 0 0] (0, 0) _ rfl (by (with_reducible repeat (first | refine blk_drewN ?_ _ | refine blk_drew ?_ | refine blk_alloc ?_ _)); refine blk_put (cs := #[.int .i64 1, .slice none 0 0]) ?_ 1 _ rfl; (with_reducible repeat (first | refine blk_drewN ?_ _ | refine blk_drew ?_ | refine blk_alloc ?_ _)); refine blk_put (cs := #[.int .i64 0, .slice none 0 0]) ?_ 0 _ rfl; (with_reducible repeat (first | refine blk_drewN ?_ _ | refine blk_drew ?_ | refine blk_alloc ?_ _)); exact BK56.out) Try.underlying28 rfl (by kernel_rfl)) rfl ?_
      exact ⟨_, ze, by first | exact Kd.R_nil _ _ _ _ _ | exact Kd.N_nil _ _ _ _ _ | exact Kd.V_nil _ _ _ _ _ | exact Kd.Q_nil _ _ _ _ _ | exact Kd.S_nil _ _ _ _ _, zb, by repeat (first | (with_reducible first | exact HK.out | apply Kept.alloc | apply Kept.drewN | apply Kept.drew | refine Kept.setCell ?_ (.inr GW55.out) _ | refine Kept.setCell ?_ (.inr GW56.out) _) | exact HK.out)⟩
     replace c17 := Bool.eq_false_iff.mpr c17
     subst c17
     have H1 : ((spec_MayWrite.f kj8 l0 a1_0 a1_1).bind fun t58 => (if t58 = 0 then ((spec_l5Push.f l0 a1_1 a2 a3).bind fun bt59 => (if bt59.2 = 0 then (some (0, bt59.1)) else (some (bt59.2, ([] : List (S51)))))) else (some (t58, ([] : List (S51)))))) = some (r1, r2) := by rw [if_neg (show ¬ (false = true) by decide)] at H; exact H
     clear H
     have H := H1
     clear H1
     replace H := Option.bind_eq_some_iff.mp H
     obtain ⟨t58, A63, H⟩ := H
     replace H : (if t58 = 0 then ((spec_l5Push.f l0 a1_1 a2 a3).bind fun bt59 => (if bt59.2 = 0 then (some (0, bt59.1)) else (some (bt59.2, ([] : List (S51)))))) else (some (t58, ([] : List (S51))))) = some (r1, r2) := H
     have A20 := Aside0.mk A63
     clear A63
     by_cases c21 : t58 = 0
     ·rw [if_pos c21] at H
      have c21b0 : (t58 == 0) = true := beq_iff_eq.mpr c21
      have c21b1 : (t58 != 0) = false := bne_eq_false_iff_eq.mpr c21
      clear c21
      replace H := Option.bind_eq_some_iff.mp H
      obtain ⟨⟨t59, t60⟩, A65, H⟩ := H
      replace H : (if t60 = 0 then (some (0, t59)) else (some (t60, ([] : List (S51))))) = some (r1, r2) := H
      have A22 := Aside0.mk A65
      clear A65
      by_cases c23 : t60 = 0
      ·rw [if_pos c23] at H
       have c23b0 : (t60 == 0) = true := beq_iff_eq.mpr c23
       have c23b1 : (t60 != 0) = false := bne_eq_false_iff_eq.mpr c23
       clear c23
       simp only [Option.some.injEq, Prod.mk.injEq] at H
       obtain ⟨rfl, rfl⟩ := H
       have hnb24 := NB443_444.out
       have hnc24 := NB444_443.out
       obtain ⟨hcz25_0, hcz25_1, hfz25_0, hfz25_1⟩ := Lv.blks2 BK55.out
       go_wp2_with (first | ((with_reducible refine gate_callee (f := 40) rfl ?_); refine goesL_ (some 32) rfl rfl Try.func40 (by kernel_rfl) rfl #[.slice Ao14 l0.length co14, .agg #[.int .i64 a1_0, .int .i64 a1_1]] rfl zm ?_; (with_reducible refine (spec_MayWrite.calls kj8 _ _ l0 a1_0 a1_1 t58 _ ?side1 ?side2 A20.out).mono ?_); (case side1 => repeat (first | exact (Kd.R_reads' HO_0.out).2.2 | (with_reducible first | refine Kd.C_alloc ?_ _ | refine Kd.C_drewN ?_ _ | refine Kd.C_drew ?_))); (case side2 => exact (Kd.R_reads' HO_0.out).2.1); rintro e w26 ⟨rfl, hb⟩; refine ⟨_, rfl, ?_⟩; have n0_ := Aside0.mk (Kd.R_below (by (with_reducible repeat (first | apply Kd.R_alloc | apply Kd.R_drewN | apply Kd.R_drew)); exact HO_0.out) hb); have n1_ := Aside0.mk (blk_below (g := gb55) (o := .cells #[.int .i64 a1_0, .int .i64 a1_1] 32 (0, 0)) zk hb); have n2_ := Aside0.mk (blk_below (g := gb56) (o := .cells #[.int .i64 0, .slice none 0 0] 28 (0, 0)) zk hb); have n3_ := Aside0.mk (Kept.below (S := (fun k_ => P0_ k_)) (by repeat (first | (with_reducible first | exact HK.out | apply Kept.alloc | apply Kept.drewN | apply Kept.drew | refine Kept.setCell ?_ (.inr GW55.out) _ | refine Kept.setCell ?_ (.inr GW56.out) _) | exact HK.out)) hb); have n4_ := Aside0.mk (below_step zb hb); clear HO_0; clear BK55; clear BK56; clear HK; clear HB; have HO_0 := n0_; have BK55 := n1_; have BK56 := n2_; have HK := n3_; have HB := n4_; clear n0_ n1_ n2_ n3_ n4_; (try clear hb); (try clear hb2); (try clear hk); (try clear hi); obtain ⟨hcz27_0, hcz27_1, hfz27_0, hfz27_1⟩ := Lv.blks2 BK55.out) | ((with_reducible refine gate_callee (f := 41) rfl ?_); refine goesL_ (some 43) rfl rfl Try.func41 (by kernel_rfl) rfl #[.slice Ao14 l0.length co14, .int .i64 a1_1, .bool a2, .int .i64 a3] rfl zm ?_; (with_reducible refine (spec_l5Push.calls (fun k_ => some k_ = (.slice Ao14 l0.length co14 : Value).ownBlock) (.slice Ao14 l0.length co14) l0 a1_1 a2 a3 t59 t60 w0 _ ?side1 ?side2 A22.out).mono ?_); (case side1 => repeat (first | (with_reducible first | exact HB.out | apply below_alloc | apply pw_below_drewN | apply below_drew1 | refine below_set ?_ GE55.out | refine below_set ?_ GE56.out) | exact HB.out)); (case side2 => exact Kd.R_tight rfl HO_0.out); rintro e w28 ⟨v66, rfl, ho0, hb, hkp⟩; refine ⟨_, rfl, ?_⟩; have n0_ := Aside0.mk (blk_kept zk hkp (fun hs_ => (fun e_ => (Kd.R_ne HO_0.out BK55.out (by decide)) e_) hs_)); have n1_ := Aside0.mk (blk_kept zk hkp (fun hs_ => (fun e_ => (Kd.R_ne HO_0.out BK56.out (by decide)) e_) hs_)); have n2_ := Aside0.mk (Kd.R_mono (ok' := fun k_ => (P0_ k_ ∨ w.heap.size ≤ k_)) ho0 (fun k_ hk_ => Or.elim hk_ (fun hs_ => (HO_0.out.1 k_ (hs_).symm)) (fun hn_ => (.inr (Nat.le_trans (by first | exact HK.out.1 | exact (show Kept w _ (fun k_ => P0_ k_) from by repeat (first | (with_reducible first | exact HK.out | apply Kept.alloc | apply Kept.drewN | apply Kept.drew | refine Kept.setCell ?_ (.inr GW55.out) _ | refine Kept.setCell ?_ (.inr GW56.out) _) | exact HK.out)).1) hn_))))); have n3_ := Aside0.mk (Kept.then_ (S := (fun k_ => P0_ k_)) (by repeat (first | (with_reducible first | exact HK.out | apply Kept.alloc | apply Kept.drewN | apply Kept.drew | refine Kept.setCell ?_ (.inr GW55.out) _ | refine Kept.setCell ?_ (.inr GW56.out) _) | exact HK.out)) hkp (fun k_ hs_ => (fun e_ => (HO_0.out.1 k_ e_.symm)) hs_)); have n4_ := Aside0.mk (hb); clear BK55; clear BK56; clear HK; clear HB; clear HO_0; have BK55 := n0_; have BK56 := n1_; have HO62 := n2_; have HK := n3_; have HB := n4_; clear n0_ n1_ n2_ n3_ n4_; (try clear hb); (try clear hkp); (try clear ho0); obtain ⟨Ao29, co29, eo29⟩ := Kd.R_slice HO62.out; subst eo29; obtain ⟨hcz30_0, hcz30_1, hfz30_0, hfz30_1⟩ := Lv.blks2 BK56.out))
       refine bodyPost_ret (results_cell_row rfl _ _ gb56 28 #[.int .i64 0, .slice Ao29 t59.length co29] (0, 0) _ rfl (by (with_reducible repeat (first | refine blk_drewN ?_ _ | refine blk_drew ?_ | refine blk_alloc ?_ _)); refine blk_put (cs := #[.int .i64 0, .slice none 0 0]) ?_ 1 _ rfl; (with_reducible repeat (first | refine blk_drewN ?_ _ | refine blk_drew ?_ | refine blk_alloc ?_ _)); refine blk_put (cs := #[.int .i64 0, .slice none 0 0]) ?_ 0 _ rfl; (with_reducible repeat (first | refine blk_drewN ?_ _ | refine blk_drew ?_ | refine blk_alloc ?_ _)); exact BK56.out) Try.underlying28 rfl (by kernel_rfl)) rfl ?_
       exact ⟨_, ze, by (with_reducible repeat (first | apply Kd.R_alloc | apply Kd.R_drewN | apply Kd.R_drew)); exact Kd.R_mono (Kd.R_far (p := ⟨gb56, 1, none⟩) (Kd.R_far (p := ⟨gb56, 0, none⟩) (Kd.R_types HO62.out BK56.out (by decide)) (fun _ hk => hk.2) (.int .i64 0)) (fun _ hk => hk.2) (.slice Ao29 t59.length co29)) (fun _ hk => hk.1), zb, by repeat (first | (with_reducible first | exact HK.out | apply Kept.alloc | apply Kept.drewN | apply Kept.drew | refine Kept.setCell ?_ (.inr GW55.out) _ | refine Kept.setCell ?_ (.inr GW56.out) _) | exact HK.out)⟩
      rw [if_neg c23] at H
      have c23b0 : (t60 == 0) = false := beq_eq_false_iff_ne.mpr c23
      have c23b1 : (t60 != 0) = true := bne_iff_ne.mpr c23
      simp only [Option.some.injEq, Prod.mk.injEq] at H
      obtain ⟨rfl, rfl⟩ := H
      have hnb31 := NB443_444.out
      have hnc31 := NB444_443.out
      obtain ⟨hcz32_0, hcz32_1, hfz32_0, hfz32_1⟩ := Lv.blks2 BK55.out
      go_wp2_with (first | ((with_reducible refine gate_callee (f := 40) rfl ?_); refine goesL_ (some 32) rfl rfl Try.func40 (by kernel_rfl) rfl #[.slice Ao14 l0.length co14, .agg #[.int .i64 a1_0, .int .i64 a1_1]] rfl zm ?_; (with_reducible refine (spec_MayWrite.calls kj8 _ _ l0 a1_0 a1_1 t58 _ ?side1 ?side2 A20.out).mono ?_); (case side1 => repeat (first | exact (Kd.R_reads' HO_0.out).2.2 | (with_reducible first | refine Kd.C_alloc ?_ _ | refine Kd.C_drewN ?_ _ | refine Kd.C_drew ?_))); (case side2 => exact (Kd.R_reads' HO_0.out).2.1); rintro e w33 ⟨rfl, hb⟩; refine ⟨_, rfl, ?_⟩; have n0_ := Aside0.mk (Kd.R_below (by (with_reducible repeat (first | apply Kd.R_alloc | apply Kd.R_drewN | apply Kd.R_drew)); exact HO_0.out) hb); have n1_ := Aside0.mk (blk_below (g := gb55) (o := .cells #[.int .i64 a1_0, .int .i64 a1_1] 32 (0, 0)) zk hb); have n2_ := Aside0.mk (blk_below (g := gb56) (o := .cells #[.int .i64 0, .slice none 0 0] 28 (0, 0)) zk hb); have n3_ := Aside0.mk (Kept.below (S := (fun k_ => P0_ k_)) (by repeat (first | (with_reducible first | exact HK.out | apply Kept.alloc | apply Kept.drewN | apply Kept.drew | refine Kept.setCell ?_ (.inr GW55.out) _ | refine Kept.setCell ?_ (.inr GW56.out) _) | exact HK.out)) hb); have n4_ := Aside0.mk (below_step zb hb); clear HO_0; clear BK55; clear BK56; clear HK; clear HB; have HO_0 := n0_; have BK55 := n1_; have BK56 := n2_; have HK := n3_; have HB := n4_; clear n0_ n1_ n2_ n3_ n4_; (try clear hb); (try clear hb2); (try clear hk); (try clear hi); obtain ⟨hcz34_0, hcz34_1, hfz34_0, hfz34_1⟩ := Lv.blks2 BK55.out) | ((with_reducible refine gate_callee (f := 41) rfl ?_); refine goesL_ (some 43) rfl rfl Try.func41 (by kernel_rfl) rfl #[.slice Ao14 l0.length co14, .int .i64 a1_1, .bool a2, .int .i64 a3] rfl zm ?_; (with_reducible refine (spec_l5Push.calls (fun k_ => some k_ = (.slice Ao14 l0.length co14 : Value).ownBlock) (.slice Ao14 l0.length co14) l0 a1_1 a2 a3 t59 t60 w0 _ ?side1 ?side2 A22.out).mono ?_); (case side1 => repeat (first | (with_reducible first | exact HB.out | apply below_alloc | apply pw_below_drewN | apply below_drew1 | refine below_set ?_ GE55.out | refine below_set ?_ GE56.out) | exact HB.out)); (case side2 => exact Kd.R_tight rfl HO_0.out); rintro e w35 ⟨v66, rfl, ho0, hb, hkp⟩; refine ⟨_, rfl, ?_⟩; have n0_ := Aside0.mk (blk_kept zk hkp (fun hs_ => (fun e_ => (Kd.R_ne HO_0.out BK55.out (by decide)) e_) hs_)); have n1_ := Aside0.mk (blk_kept zk hkp (fun hs_ => (fun e_ => (Kd.R_ne HO_0.out BK56.out (by decide)) e_) hs_)); have n2_ := Aside0.mk (Kd.R_mono (ok' := fun k_ => (P0_ k_ ∨ w.heap.size ≤ k_)) ho0 (fun k_ hk_ => Or.elim hk_ (fun hs_ => (HO_0.out.1 k_ (hs_).symm)) (fun hn_ => (.inr (Nat.le_trans (by first | exact HK.out.1 | exact (show Kept w _ (fun k_ => P0_ k_) from by repeat (first | (with_reducible first | exact HK.out | apply Kept.alloc | apply Kept.drewN | apply Kept.drew | refine Kept.setCell ?_ (.inr GW55.out) _ | refine Kept.setCell ?_ (.inr GW56.out) _) | exact HK.out)).1) hn_))))); have n3_ := Aside0.mk (Kept.then_ (S := (fun k_ => P0_ k_)) (by repeat (first | (with_reducible first | exact HK.out | apply Kept.alloc | apply Kept.drewN | apply Kept.drew | refine Kept.setCell ?_ (.inr GW55.out) _ | refine Kept.setCell ?_ (.inr GW56.out) _) | exact HK.out)) hkp (fun k_ hs_ => (fun e_ => (HO_0.out.1 k_ e_.symm)) hs_)); have n4_ := Aside0.mk (hb); clear BK55; clear BK56; clear HK; clear HB; clear HO_0; have BK55 := n0_; have BK56 := n1_; have HO62 := n2_; have HK := n3_; have HB := n4_; clear n0_ n1_ n2_ n3_ n4_; (try clear hb); (try clear hkp); (try clear ho0); obtain ⟨hcz36_0, hcz36_1, hfz36_0, hfz36_1⟩ := Lv.blks2 BK56.out))
      refine bodyPost_ret (results_cell_row rfl _ _ gb56 28 #[.int .i64 t60, .slice none 0 0] (0, 0) _ rfl (by (with_reducible repeat (first | refine blk_drewN ?_ _ | refine blk_drew ?_ | refine blk_alloc ?_ _)); refine blk_put (cs := #[.int .i64 t60, .slice none 0 0]) ?_ 1 _ rfl; (with_reducible repeat (first | refine blk_drewN ?_ _ | refine blk_drew ?_ | refine blk_alloc ?_ _)); refine blk_put (cs := #[.int .i64 0, .slice none 0 0]) ?_ 0 _ rfl; (with_reducible repeat (first | refine blk_drewN ?_ _ | refine blk_drew ?_ | refine blk_alloc ?_ _)); exact BK56.out) Try.underlying28 rfl (by kernel_rfl)) rfl ?_
      exact ⟨_, ze, by first | exact Kd.R_nil _ _ _ _ _ | exact Kd.N_nil _ _ _ _ _ | exact Kd.V_nil _ _ _ _ _ | exact Kd.Q_nil _ _ _ _ _ | exact Kd.S_nil _ _ _ _ _, zb, by repeat (first | (with_reducible first | exact HK.out | apply Kept.alloc | apply Kept.drewN | apply Kept.drew | refine Kept.setCell ?_ (.inr GW55.out) _ | refine Kept.setCell ?_ (.inr GW56.out) _) | exact HK.out)⟩
     rw [if_neg c21] at H
     have c21b0 : (t58 == 0) = false := beq_eq_false_iff_ne.mpr c21
     have c21b1 : (t58 != 0) = true := bne_iff_ne.mpr c21
     simp only [Option.some.injEq, Prod.mk.injEq] at H
     obtain ⟨rfl, rfl⟩ := H
     have hnb37 := NB443_444.out
     have hnc37 := NB444_443.out
     obtain ⟨hcz38_0, hcz38_1, hfz38_0, hfz38_1⟩ := Lv.blks2 BK55.out
     go_wp2_with (first | ((with_reducible refine gate_callee (f := 40) rfl ?_); refine goesL_ (some 32) rfl rfl Try.func40 (by kernel_rfl) rfl #[.slice Ao14 l0.length co14, .agg #[.int .i64 a1_0, .int .i64 a1_1]] rfl zm ?_; (with_reducible refine (spec_MayWrite.calls kj8 _ _ l0 a1_0 a1_1 t58 _ ?side1 ?side2 A20.out).mono ?_); (case side1 => repeat (first | exact (Kd.R_reads' HO_0.out).2.2 | (with_reducible first | refine Kd.C_alloc ?_ _ | refine Kd.C_drewN ?_ _ | refine Kd.C_drew ?_))); (case side2 => exact (Kd.R_reads' HO_0.out).2.1); rintro e w39 ⟨rfl, hb⟩; refine ⟨_, rfl, ?_⟩; have n0_ := Aside0.mk (Kd.R_below (by (with_reducible repeat (first | apply Kd.R_alloc | apply Kd.R_drewN | apply Kd.R_drew)); exact HO_0.out) hb); have n1_ := Aside0.mk (blk_below (g := gb55) (o := .cells #[.int .i64 a1_0, .int .i64 a1_1] 32 (0, 0)) zk hb); have n2_ := Aside0.mk (blk_below (g := gb56) (o := .cells #[.int .i64 0, .slice none 0 0] 28 (0, 0)) zk hb); have n3_ := Aside0.mk (Kept.below (S := (fun k_ => P0_ k_)) (by repeat (first | (with_reducible first | exact HK.out | apply Kept.alloc | apply Kept.drewN | apply Kept.drew | refine Kept.setCell ?_ (.inr GW55.out) _ | refine Kept.setCell ?_ (.inr GW56.out) _) | exact HK.out)) hb); have n4_ := Aside0.mk (below_step zb hb); clear HO_0; clear BK55; clear BK56; clear HK; clear HB; have HO_0 := n0_; have BK55 := n1_; have BK56 := n2_; have HK := n3_; have HB := n4_; clear n0_ n1_ n2_ n3_ n4_; (try clear hb); (try clear hb2); (try clear hk); (try clear hi); obtain ⟨hcz40_0, hcz40_1, hfz40_0, hfz40_1⟩ := Lv.blks2 BK56.out))
     refine bodyPost_ret (results_cell_row rfl _ _ gb56 28 #[.int .i64 t58, .slice none 0 0] (0, 0) _ rfl (by (with_reducible repeat (first | refine blk_drewN ?_ _ | refine blk_drew ?_ | refine blk_alloc ?_ _)); refine blk_put (cs := #[.int .i64 t58, .slice none 0 0]) ?_ 1 _ rfl; (with_reducible repeat (first | refine blk_drewN ?_ _ | refine blk_drew ?_ | refine blk_alloc ?_ _)); refine blk_put (cs := #[.int .i64 0, .slice none 0 0]) ?_ 0 _ rfl; (with_reducible repeat (first | refine blk_drewN ?_ _ | refine blk_drew ?_ | refine blk_alloc ?_ _)); exact BK56.out) Try.underlying28 rfl (by kernel_rfl)) rfl ?_
     exact ⟨_, ze, by first | exact Kd.R_nil _ _ _ _ _ | exact Kd.N_nil _ _ _ _ _ | exact Kd.V_nil _ _ _ _ _ | exact Kd.Q_nil _ _ _ _ _ | exact Kd.S_nil _ _ _ _ _, zb, by repeat (first | (with_reducible first | exact HK.out | apply Kept.alloc | apply Kept.drewN | apply Kept.drew | refine Kept.setCell ?_ (.inr GW55.out) _ | refine Kept.setCell ?_ (.inr GW56.out) _) | exact HK.out)⟩
  replace c8 := Bool.eq_false_iff.mpr c8
  subst c8
  have H1 : (some (3, ([] : List (S51)))) = some (r1, r2) := by rw [if_neg (show ¬ (false = true) by decide)] at H; exact H
  clear H
  have H := H1
  clear H1
  simp only [Option.some.injEq, Prod.mk.injEq] at H
  obtain ⟨rfl, rfl⟩ := H
  go_enter Try.func14, Try.ntmps14
  go_wp2_with (first | ((with_reducible refine gate_dst (N := 5) rfl ?_); refine box_event ?hg (N := 5) ?hd (cs := #[.int .i64 a1_0, .int .i64 a1_1]) (t := 32) ?hr ?_; (case hd => rfl); (case hg => rfl); (case hr => first | (go_simp; done) | (go_simp; rfl)); intro gb55 hg w41 hbox hb; have n0_ := Aside0.mk (Kd.R_below (by (with_reducible repeat (first | apply Kd.R_alloc | apply Kd.R_drewN | apply Kd.R_drew)); exact HO0.out) hb); have n1_ := Aside0.mk (Kept.below (S := (fun k_ => P0_ k_)) (by repeat (first | (with_reducible first | exact HK.out | apply Kept.alloc | apply Kept.drewN | apply Kept.drew) | exact HK.out)) hb); have n2_ := Aside0.mk (below_step zb hb); have n3_ := Aside0.mk (hbox); have n4_ := Aside0.mk ((by rw [hg]; exact (by first | exact HK.out.1 | exact (show Kept w _ (fun k_ => P0_ k_) from by repeat (first | (with_reducible first | exact HK.out | apply Kept.alloc | apply Kept.drewN | apply Kept.drew) | exact HK.out)).1) : w.heap.size ≤ gb55)); have n5_ := Aside0.mk ((by rw [hg]; exact (below_size zb) : w0.heap.size ≤ gb55)); clear HO0; clear HK; clear HB; have HO0 := n0_; have HK := n1_; have HB := n2_; have BK55 := n3_; have GW55 := n4_; have GE55 := n5_; clear n0_ n1_ n2_ n3_ n4_ n5_; clear hb hbox hg) | ((with_reducible refine gate_dst (N := 8) rfl ?_); refine box_event ?hg (N := 8) ?hd (cs := #[.int .i64 0, .slice none 0 0]) (t := 28) ?hr ?_; (case hd => rfl); (case hg => rfl); (case hr => first | (go_simp; done) | (go_simp; rfl)); intro gb56 hg w42 hbox hb; have n0_ := Aside0.mk (Kd.R_below (by (with_reducible repeat (first | apply Kd.R_alloc | apply Kd.R_drewN | apply Kd.R_drew)); exact HO0.out) hb); have n1_ := Aside0.mk (blk_below (g := gb55) (o := .cells #[.int .i64 a1_0, .int .i64 a1_1] 32 (0, 0)) zk hb); have n2_ := Aside0.mk (Kept.below (S := (fun k_ => P0_ k_)) (by repeat (first | (with_reducible first | exact HK.out | apply Kept.alloc | apply Kept.drewN | apply Kept.drew | refine Kept.setCell ?_ (.inr GW55.out) _) | exact HK.out)) hb); have n3_ := Aside0.mk (below_step zb hb); have n4_ := Aside0.mk (hbox); have n5_ := Aside0.mk ((by rw [hg]; exact (by first | exact HK.out.1 | exact (show Kept w _ (fun k_ => P0_ k_) from by repeat (first | (with_reducible first | exact HK.out | apply Kept.alloc | apply Kept.drewN | apply Kept.drew | refine Kept.setCell ?_ (.inr GW55.out) _) | exact HK.out)).1) : w.heap.size ≤ gb56)); have n6_ := Aside0.mk ((by rw [hg]; exact (below_size zb) : w0.heap.size ≤ gb56)); have n7_ := Aside0.mk ((by rw [hg]; exact Nat.ne_of_lt (blk_lt (g := gb55) (o := .cells #[.int .i64 a1_0, .int .i64 a1_1] 32 (0, 0)) zk) : gb55 ≠ gb56)); have n8_ := Aside0.mk ((by rw [hg]; exact Nat.ne_of_gt (blk_lt (g := gb55) (o := .cells #[.int .i64 a1_0, .int .i64 a1_1] 32 (0, 0)) zk) : gb56 ≠ gb55)); clear HO0; clear BK55; clear HK; clear HB; have HO0 := n0_; have BK55 := n1_; have HK := n2_; have HB := n3_; have BK56 := n4_; have GW56 := n5_; have GE56 := n6_; have NB443_444 := n7_; have NB444_443 := n8_; clear n0_ n1_ n2_ n3_ n4_ n5_ n6_ n7_ n8_; clear hb hbox hg; have hnb43 := NB443_444.out; have hnc43 := NB444_443.out; obtain ⟨hcz44_0, hcz44_1, hfz44_0, hfz44_1⟩ := Lv.blks2 BK55.out; obtain ⟨Ao45, co45, eo45⟩ := Kd.R_slice HO0.out; subst eo45) | ((with_reducible refine gate_callee (f := 38) rfl ?_); refine goesL_ (some 15) rfl rfl Try.func38 (by kernel_rfl) rfl #[.slice Ao45 l0.length co45, .agg #[.int .i64 a1_0, .int .i64 a1_1]] rfl zm ?_; (with_reducible refine (spec_l5Asked.calls k _ _ l0 a1_0 a1_1 t57 _ ?side1 ?side2 A5.out).mono ?_); (case side1 => repeat (first | exact (Kd.R_reads' HO0.out).2.2 | (with_reducible first | refine Kd.C_alloc ?_ _ | refine Kd.C_drewN ?_ _ | refine Kd.C_drew ?_))); (case side2 => exact (Kd.R_reads' HO0.out).2.1); rintro e w46 ⟨rfl, hb⟩; refine ⟨_, rfl, ?_⟩; have n0_ := Aside0.mk (Kd.R_below (by (with_reducible repeat (first | apply Kd.R_alloc | apply Kd.R_drewN | apply Kd.R_drew)); exact HO0.out) hb); have n1_ := Aside0.mk (blk_below (g := gb55) (o := .cells #[.int .i64 a1_0, .int .i64 a1_1] 32 (0, 0)) zk hb); have n2_ := Aside0.mk (blk_below (g := gb56) (o := .cells #[.int .i64 0, .slice none 0 0] 28 (0, 0)) zk hb); have n3_ := Aside0.mk (Kept.below (S := (fun k_ => P0_ k_)) (by repeat (first | (with_reducible first | exact HK.out | apply Kept.alloc | apply Kept.drewN | apply Kept.drew | refine Kept.setCell ?_ (.inr GW55.out) _ | refine Kept.setCell ?_ (.inr GW56.out) _) | exact HK.out)) hb); have n4_ := Aside0.mk (below_step zb hb); clear HO0; clear BK55; clear BK56; clear HK; clear HB; have HO0 := n0_; have BK55 := n1_; have BK56 := n2_; have HK := n3_; have HB := n4_; clear n0_ n1_ n2_ n3_ n4_; (try clear hb); (try clear hb2); (try clear hk); (try clear hi)) | ((with_reducible refine gate_callee (f := 39) rfl ?_); refine goesL_ (some 21) rfl rfl Try.func39 (by kernel_rfl) rfl #[.int .i64 a3] rfl zm ?_; (with_reducible refine (spec_l1Value.calls a3 false _ A7.out).mono ?_); rintro e w' ⟨rfl, ⟨nd, rfl⟩⟩; refine ⟨_, rfl, ?_⟩; (repeat (rw [drewN_self w46]; generalize hq_ : World.drewN w46 _ = w46; have n0_ : Aside0 (Kd.R k51 51 w46 w0.heap.size (fun k_ => (P0_ k_ ∨ w.heap.size ≤ k_)) (.slice Ao45 l0.length co45) l0) := ⟨by rw [← hq_]; exact (by (with_reducible repeat (first | apply Kd.R_alloc | apply Kd.R_drewN | apply Kd.R_drew)); exact HO0.out)⟩; have n1_ : Aside0 (w46.heap[gb55]? = some (.cells #[.int .i64 a1_0, .int .i64 a1_1] 32 (0, 0))) := ⟨by rw [← hq_]; exact zk⟩; have n2_ : Aside0 (w46.heap[gb56]? = some (.cells #[.int .i64 0, .slice none 0 0] 28 (0, 0))) := ⟨by rw [← hq_]; exact zk⟩; have n3_ : Aside0 (Kept w w46 (fun k_ => P0_ k_)) := ⟨by rw [← hq_]; exact (by repeat (first | (with_reducible first | exact HK.out | apply Kept.alloc | apply Kept.drewN | apply Kept.drew | refine Kept.setCell ?_ (.inr GW55.out) _ | refine Kept.setCell ?_ (.inr GW56.out) _) | exact HK.out))⟩; have n4_ : Aside0 (Below w0.heap.size w0 w46) := ⟨by rw [← hq_]; exact zb⟩; clear HO0 BK55 BK56 HK HB hq_; have HO0 := n0_; have BK55 := n1_; have BK56 := n2_; have HK := n3_; have HB := n4_; clear n0_ n1_ n2_ n3_ n4_)); (try (have hczrgb443_0 : w46.cell? ⟨gb55, 0, none⟩ = some (.int .i64 a1_0) := (blk_cell BK55.out 0).trans rfl)); (try (have hfzrgb443_0 := blk_frozen BK55.out 0)); (try (have hczrgb443_1 : w46.cell? ⟨gb55, 1, none⟩ = some (.int .i64 a1_1) := (blk_cell BK55.out 1).trans rfl)); (try (have hfzrgb443_1 := blk_frozen BK55.out 1)); (try (have hczrgb444_0 : w46.cell? ⟨gb56, 0, none⟩ = some (.int .i64 0) := (blk_cell BK56.out 0).trans rfl)); (try (have hfzrgb444_0 := blk_frozen BK56.out 0)); (try (have hczrgb444_1 : w46.cell? ⟨gb56, 1, none⟩ = some (.slice none 0 0) := (blk_cell BK56.out 1).trans rfl)); (try (have hfzrgb444_1 := blk_frozen BK56.out 1)); obtain ⟨hcz47_0, hcz47_1, hfz47_0, hfz47_1⟩ := Lv.blks2 BK56.out))
  refine bodyPost_ret (results_cell_row rfl _ _ gb56 28 #[.int .i64 3, .slice none 0 0] (0, 0) _ rfl (by (with_reducible repeat (first | refine blk_drewN ?_ _ | refine blk_drew ?_ | refine blk_alloc ?_ _)); refine blk_put (cs := #[.int .i64 3, .slice none 0 0]) ?_ 1 _ rfl; (with_reducible repeat (first | refine blk_drewN ?_ _ | refine blk_drew ?_ | refine blk_alloc ?_ _)); refine blk_put (cs := #[.int .i64 0, .slice none 0 0]) ?_ 0 _ rfl; (with_reducible repeat (first | refine blk_drewN ?_ _ | refine blk_drew ?_ | refine blk_alloc ?_ _)); exact BK56.out) Try.underlying28 rfl (by kernel_rfl)) rfl ?_
  exact ⟨_, ze, by first | exact Kd.R_nil _ _ _ _ _ | exact Kd.N_nil _ _ _ _ _ | exact Kd.V_nil _ _ _ _ _ | exact Kd.Q_nil _ _ _ _ _ | exact Kd.S_nil _ _ _ _ _, zb, by repeat (first | (with_reducible first | exact HK.out | apply Kept.alloc | apply Kept.drewN | apply Kept.drew | refine Kept.setCell ?_ (.inr GW55.out) _ | refine Kept.setCell ?_ (.inr GW56.out) _) | exact HK.out)⟩
 rw [if_neg c6] at H
 have c6b0 : (t57 == 0) = false := beq_eq_false_iff_ne.mpr c6
 have c6b1 : (t57 != 0) = true := bne_iff_ne.mpr c6
 simp only [Option.some.injEq, Prod.mk.injEq] at H
 obtain ⟨rfl, rfl⟩ := H
 go_enter Try.func14, Try.ntmps14
 go_wp2_with (first | ((with_reducible refine gate_dst (N := 5) rfl ?_); refine box_event ?hg (N := 5) ?hd (cs := #[.int .i64 a1_0, .int .i64 a1_1]) (t := 32) ?hr ?_; (case hd => rfl); (case hg => rfl); (case hr => first | (go_simp; done) | (go_simp; rfl)); intro gb55 hg w48 hbox hb; have n0_ := Aside0.mk (Kd.R_below (by (with_reducible repeat (first | apply Kd.R_alloc | apply Kd.R_drewN | apply Kd.R_drew)); exact HO0.out) hb); have n1_ := Aside0.mk (Kept.below (S := (fun k_ => P0_ k_)) (by repeat (first | (with_reducible first | exact HK.out | apply Kept.alloc | apply Kept.drewN | apply Kept.drew) | exact HK.out)) hb); have n2_ := Aside0.mk (below_step zb hb); have n3_ := Aside0.mk (hbox); have n4_ := Aside0.mk ((by rw [hg]; exact (by first | exact HK.out.1 | exact (show Kept w _ (fun k_ => P0_ k_) from by repeat (first | (with_reducible first | exact HK.out | apply Kept.alloc | apply Kept.drewN | apply Kept.drew) | exact HK.out)).1) : w.heap.size ≤ gb55)); have n5_ := Aside0.mk ((by rw [hg]; exact (below_size zb) : w0.heap.size ≤ gb55)); clear HO0; clear HK; clear HB; have HO0 := n0_; have HK := n1_; have HB := n2_; have BK55 := n3_; have GW55 := n4_; have GE55 := n5_; clear n0_ n1_ n2_ n3_ n4_ n5_; clear hb hbox hg) | ((with_reducible refine gate_dst (N := 8) rfl ?_); refine box_event ?hg (N := 8) ?hd (cs := #[.int .i64 0, .slice none 0 0]) (t := 28) ?hr ?_; (case hd => rfl); (case hg => rfl); (case hr => first | (go_simp; done) | (go_simp; rfl)); intro gb56 hg w49 hbox hb; have n0_ := Aside0.mk (Kd.R_below (by (with_reducible repeat (first | apply Kd.R_alloc | apply Kd.R_drewN | apply Kd.R_drew)); exact HO0.out) hb); have n1_ := Aside0.mk (blk_below (g := gb55) (o := .cells #[.int .i64 a1_0, .int .i64 a1_1] 32 (0, 0)) zk hb); have n2_ := Aside0.mk (Kept.below (S := (fun k_ => P0_ k_)) (by repeat (first | (with_reducible first | exact HK.out | apply Kept.alloc | apply Kept.drewN | apply Kept.drew | refine Kept.setCell ?_ (.inr GW55.out) _) | exact HK.out)) hb); have n3_ := Aside0.mk (below_step zb hb); have n4_ := Aside0.mk (hbox); have n5_ := Aside0.mk ((by rw [hg]; exact (by first | exact HK.out.1 | exact (show Kept w _ (fun k_ => P0_ k_) from by repeat (first | (with_reducible first | exact HK.out | apply Kept.alloc | apply Kept.drewN | apply Kept.drew | refine Kept.setCell ?_ (.inr GW55.out) _) | exact HK.out)).1) : w.heap.size ≤ gb56)); have n6_ := Aside0.mk ((by rw [hg]; exact (below_size zb) : w0.heap.size ≤ gb56)); have n7_ := Aside0.mk ((by rw [hg]; exact Nat.ne_of_lt (blk_lt (g := gb55) (o := .cells #[.int .i64 a1_0, .int .i64 a1_1] 32 (0, 0)) zk) : gb55 ≠ gb56)); have n8_ := Aside0.mk ((by rw [hg]; exact Nat.ne_of_gt (blk_lt (g := gb55) (o := .cells #[.int .i64 a1_0, .int .i64 a1_1] 32 (0, 0)) zk) : gb56 ≠ gb55)); clear HO0; clear BK55; clear HK; clear HB; have HO0 := n0_; have BK55 := n1_; have HK := n2_; have HB := n3_; have BK56 := n4_; have GW56 := n5_; have GE56 := n6_; have NB443_444 := n7_; have NB444_443 := n8_; clear n0_ n1_ n2_ n3_ n4_ n5_ n6_ n7_ n8_; clear hb hbox hg; have hnb50 := NB443_444.out; have hnc50 := NB444_443.out; obtain ⟨hcz51_0, hcz51_1, hfz51_0, hfz51_1⟩ := Lv.blks2 BK55.out; obtain ⟨Ao52, co52, eo52⟩ := Kd.R_slice HO0.out; subst eo52) | ((with_reducible refine gate_callee (f := 38) rfl ?_); refine goesL_ (some 15) rfl rfl Try.func38 (by kernel_rfl) rfl #[.slice Ao52 l0.length co52, .agg #[.int .i64 a1_0, .int .i64 a1_1]] rfl zm ?_; (with_reducible refine (spec_l5Asked.calls k _ _ l0 a1_0 a1_1 t57 _ ?side1 ?side2 A5.out).mono ?_); (case side1 => repeat (first | exact (Kd.R_reads' HO0.out).2.2 | (with_reducible first | refine Kd.C_alloc ?_ _ | refine Kd.C_drewN ?_ _ | refine Kd.C_drew ?_))); (case side2 => exact (Kd.R_reads' HO0.out).2.1); rintro e w53 ⟨rfl, hb⟩; refine ⟨_, rfl, ?_⟩; have n0_ := Aside0.mk (Kd.R_below (by (with_reducible repeat (first | apply Kd.R_alloc | apply Kd.R_drewN | apply Kd.R_drew)); exact HO0.out) hb); have n1_ := Aside0.mk (blk_below (g := gb55) (o := .cells #[.int .i64 a1_0, .int .i64 a1_1] 32 (0, 0)) zk hb); have n2_ := Aside0.mk (blk_below (g := gb56) (o := .cells #[.int .i64 0, .slice none 0 0] 28 (0, 0)) zk hb); have n3_ := Aside0.mk (Kept.below (S := (fun k_ => P0_ k_)) (by repeat (first | (with_reducible first | exact HK.out | apply Kept.alloc | apply Kept.drewN | apply Kept.drew | refine Kept.setCell ?_ (.inr GW55.out) _ | refine Kept.setCell ?_ (.inr GW56.out) _) | exact HK.out)) hb); have n4_ := Aside0.mk (below_step zb hb); clear HO0; clear BK55; clear BK56; clear HK; clear HB; have HO0 := n0_; have BK55 := n1_; have BK56 := n2_; have HK := n3_; have HB := n4_; clear n0_ n1_ n2_ n3_ n4_; (try clear hb); (try clear hb2); (try clear hk); (try clear hi); obtain ⟨hcz54_0, hcz54_1, hfz54_0, hfz54_1⟩ := Lv.blks2 BK56.out))
 refine bodyPost_ret (results_cell_row rfl _ _ gb56 28 #[.int .i64 t57, .slice none 0 0] (0, 0) _ rfl (by (with_reducible repeat (first | refine blk_drewN ?_ _ | refine blk_drew ?_ | refine blk_alloc ?_ _)); refine blk_put (cs := #[.int .i64 t57, .slice none 0 0]) ?_ 1 _ rfl; (with_reducible repeat (first | refine blk_drewN ?_ _ | refine blk_drew ?_ | refine blk_alloc ?_ _)); refine blk_put (cs := #[.int .i64 0, .slice none 0 0]) ?_ 0 _ rfl; (with_reducible repeat (first | refine blk_drewN ?_ _ | refine blk_drew ?_ | refine blk_alloc ?_ _)); exact BK56.out) Try.underlying28 rfl (by kernel_rfl)) rfl ?_
 exact ⟨_, ze, by first | exact Kd.R_nil _ _ _ _ _ | exact Kd.N_nil _ _ _ _ _ | exact Kd.V_nil _ _ _ _ _ | exact Kd.Q_nil _ _ _ _ _ | exact Kd.S_nil _ _ _ _ _, zb, by repeat (first | (with_reducible first | exact HK.out | apply Kept.alloc | apply Kept.drewN | apply Kept.drew | refine Kept.setCell ?_ (.inr GW55.out) _ | refine Kept.setCell ?_ (.inr GW56.out) _) | exact HK.out)⟩
end Go.Proofs.Ytkaammmkejiafaa.P
