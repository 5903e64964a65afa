import Derived.Test.YtkaammmkejiafaaZz
import Derived.Test.YtkaammmkejiafaaP0
import Derived.Test.YtkaammmkejiafaaPCall0
import Derived.Test.YtkaammmkejiafaaPCall1
import Derived.Test.YtkaammmkejiafaaPDall0
import Derived.Test.YtkaammmkejiafaaWRepsOne
import Derived.Test.YtkaammmkejiafaaLv
import Derived.Test.YtkaammmkejiafaaLv
import Derived.Test.YtkaammmkejiafaaLb
import Derived.Shelf.Abstract
import Derived.Test.YtkaammmkejiafaaLb
import Derived.Test.YtkaammmkejiafaaLv
import Derived.Test.YtkaammmkejiafaaLv
namespace Go.Proofs.Ytkaammmkejiafaa.P
open Go.RowKit Go.Proofs.YtkaammmkejiafaaW.PrintWords Go.Proofs.YtkaammmkejiafaaW.PrintLast Go.Proofs.YtkaammmkejiafaaW.PrintMore
attribute [local go_sem] max2_int min2_int max_two min_two max_three min_three max_four min_four   -- for this text's walks alone
set_option linter.unusedVariables false
set_option linter.unusedSimpArgs false
set_option maxHeartbeats 40000000 in
set_option maxRecDepth 100000 in
theorem spec_ChainFault.calls (k : Nat) (A0 : Option Addr) (c0 : Nat) (l0 : List (S51)) (r : Int) (w : World) (hr0 : Kd.C k51 w A0 l0.length l0) (hc0 : l0.length ≤ c0) (h : spec_ChainFault.f k l0 = some r) :
 Calls Try.prog 25 #[.slice A0 l0.length c0] w fun e w' => e = .returned (.int .i64 r) ∧ Below w.heap.size w w' := by
 have hu51 := Try.underlying51
 have HR0 := Aside0.mk hr0
 have HC0 := Aside0.mk hc0
 clear hr0 hc0
 have HB := Aside0.mk (Below.refl w.heap.size w)
 have H : (if (l0.length : Int) > 12 then (some 2) else (spec_ChainFault.l0 k l0 0)) = some r := h
 clear h
 by_cases c2 : (l0.length : Int) > 12
 ·rw [if_pos c2] at H
  have c2b0 : decide (12 < (l0.length : Int)) = true := decide_eq_true c2
  have c2b1 : decide (12 < l0.length) = true := decide_eq_true (by omega)
  clear c2
  obtain rfl := Option.some.inj H
  go_enter Try.func25, Try.ntmps25
  go_wp2
  repeat (go_quiet (fail); try go_wp2)
  go_ret
  exact ⟨ze, zb⟩
 rw [if_neg c2] at H
 have c2b0 : decide (12 < (l0.length : Int)) = false := decide_eq_false c2
 have c2b1 : decide (12 < l0.length) = false := decide_eq_false (by omega)
 clear c2
 have H' := Aside0.mk H
 clear H
 go_enter Try.func25, Try.ntmps25
 go_wp2
 repeat (go_quiet (fail); try go_wp2)
 go_loopg [3] k (fun kq v3 w' => ∃ (x3_1 : Int), v3 = .int .i64 x3_1 ∧ Aside0 (spec_ChainFault.l0 kq l0 x3_1 = some r) ∧ Aside0 (kq ≤ k) ∧ Aside0 (Below w.heap.size w w'))
 case atStart => exact ⟨(0), zs, H', ⟨Nat.le_refl _⟩, ⟨zb⟩⟩
 case round =>
  clear H'
  try clear c2
  try clear c2b0
  try clear c2b1
  try clear p2
  obtain ⟨x3_1, rfl, HA, HK1, HB⟩ := hrel
  cases gk with
  | zero => exact absurd HA.out (by simp [spec_ChainFault.l0])
  | succ k1 =>
   have H := HA.out
   clear HA
   simp only [spec_ChainFault.l0] at H
   by_cases c3 : x3_1 < (l0.length : Int)
   ·rw [if_pos c3] at H
    have c3b0 : decide (x3_1 < (l0.length : Int)) = true := decide_eq_true c3
    clear c3
    by_cases c4 : 0 ≤ x3_1
    ·rw [if_pos c4] at H
     have c4b0 : decide (0 ≤ x3_1) = true := decide_eq_true c4
     clear c4
     have HC5 := Aside0.mk H
     clear H
     have p233 : 0 ≤ (x3_1 : Int) := of_decide_eq_true za
     have q55 : x3_1 < (l0.length : Int) := of_decide_eq_true za
     obtain ⟨ad55, e233, hx55_0, hx55_1, hx55_2, hx55_3⟩ := at_T51 (Kd.C_below HR0.out HB.out) x3_1 p233 q55
     cases e233
     replace p233 := eq_true p233
     replace q55 := eq_true q55
     go_upto_region 7 with (first | ((with_reducible refine gate_dst (N := 4) rfl ?_); refine box_event ?hg (N := 4) ?hd (cs := #[.int .i64 0, .int .i64 0, .bool false, .int .i64 0]) (t := 51) ?hr ?_; (case hd => rfl); (case hg => rfl); (case hr => first | (go_simp; done) | (go_simp; rfl)); intro gb34 hg w6 hbox hb; have n0_ := Aside0.mk (below_step zb hb); have n1_ := Aside0.mk (hbox); have n2_ := Aside0.mk ((by rw [hg]; exact (below_size zb) : w.heap.size ≤ gb34)); have n3_ := n2_; clear HB; have HB := n0_; have BK34 := n1_; have GW34 := n2_; have GE34 := n3_; clear n0_ n1_ n2_ n3_; clear hb hbox hg; obtain ⟨hcz7_0, hcz7_1, hcz7_2, hcz7_3, hfz7_0, hfz7_1, hfz7_2, hfz7_3⟩ := Lv.blks4 BK34.out))
     repeat (go_quiet (first | ((with_reducible refine gate_dst (N := 4) rfl ?_); refine box_event ?hg (N := 4) ?hd (cs := #[.int .i64 0, .int .i64 0, .bool false, .int .i64 0]) (t := 51) ?hr ?_; (case hd => rfl); (case hg => rfl); (case hr => first | (go_simp; done) | (go_simp; rfl)); intro gb34 hg w6 hbox hb; have n0_ := Aside0.mk (below_step zb hb); have n1_ := Aside0.mk (hbox); have n2_ := Aside0.mk ((by rw [hg]; exact (below_size zb) : w.heap.size ≤ gb34)); have n3_ := n2_; clear HB; have HB := n0_; have BK34 := n1_; have GW34 := n2_; have GE34 := n3_; clear n0_ n1_ n2_ n3_; clear hb hbox hg; obtain ⟨hcz7_0, hcz7_1, hcz7_2, hcz7_3, hfz7_0, hfz7_1, hfz7_2, hfz7_3⟩ := Lv.blks4 BK34.out)); go_upto_region 7 with (first | ((with_reducible refine gate_dst (N := 4) rfl ?_); refine box_event ?hg (N := 4) ?hd (cs := #[.int .i64 0, .int .i64 0, .bool false, .int .i64 0]) (t := 51) ?hr ?_; (case hd => rfl); (case hg => rfl); (case hr => first | (go_simp; done) | (go_simp; rfl)); intro gb34 hg w6 hbox hb; have n0_ := Aside0.mk (below_step zb hb); have n1_ := Aside0.mk (hbox); have n2_ := Aside0.mk ((by rw [hg]; exact (below_size zb) : w.heap.size ≤ gb34)); have n3_ := n2_; clear HB; have HB := n0_; have BK34 := n1_; have GW34 := n2_; have GE34 := n3_; clear n0_ n1_ n2_ n3_; clear hb hbox hg; obtain ⟨hcz7_0, hcz7_1, hcz7_2, hcz7_3, hfz7_0, hfz7_1, hfz7_2, hfz7_3⟩ := Lv.blks4 BK34.out)))
     (try simp only [Act.put, List.setIfInBounds_toArray, List.set_cons_zero, List.set_cons_succ])
     go_cut [38] (fun v38 wc => ∃ (kq : Nat) (x38_4 : Bool), v38 = .bool x38_4 ∧ Aside0 (spec_ChainFault.j1 kq l0 x3_1 x38_4 ((rd_T51 l0 x3_1).f0) ((rd_T51 l0 x3_1).f1) ((rd_T51 l0 x3_1).f2) ((rd_T51 l0 x3_1).f3) = some r) ∧ Aside0 (kq ≤ k1) ∧ Aside0 (wc.heap[gb34]? = some (.cells #[.int .i64 ((rd_T51 l0 x3_1).f0), .int .i64 ((rd_T51 l0 x3_1).f1), .bool ((rd_T51 l0 x3_1).f2), .int .i64 ((rd_T51 l0 x3_1).f3)] 51 (0, 0))) ∧ Aside0 (Below w.heap.size w wc))
     case first =>
      have H := HC5.out
      clear HC5
      replace H := Option.bind_eq_some_iff.mp H
      obtain ⟨t59, A80, H⟩ := H
      replace H : (if t59 = true then (if ((rd_T51 l0 x3_1).f1) = 0 then ((spec_l1Value.f ((rd_T51 l0 x3_1).f3)).bind fun t57 => (spec_ChainFault.j1 k1 l0 x3_1 (!t57) ((rd_T51 l0 x3_1).f0) ((rd_T51 l0 x3_1).f1) ((rd_T51 l0 x3_1).f2) ((rd_T51 l0 x3_1).f3))) else ((spec_l5At.f ((rd_T51 l0 x3_1).f1)).bind fun t58 => (if t58 = true then ((spec_l1Value.f ((rd_T51 l0 x3_1).f3)).bind fun t56 => (spec_ChainFault.j1 k1 l0 x3_1 (!t56) ((rd_T51 l0 x3_1).f0) ((rd_T51 l0 x3_1).f1) ((rd_T51 l0 x3_1).f2) ((rd_T51 l0 x3_1).f3))) else (spec_ChainFault.j1 k1 l0 x3_1 true ((rd_T51 l0 x3_1).f0) ((rd_T51 l0 x3_1).f1) ((rd_T51 l0 x3_1).f2) ((rd_T51 l0 x3_1).f3))))) else (spec_ChainFault.j1 k1 l0 x3_1 true ((rd_T51 l0 x3_1).f0) ((rd_T51 l0 x3_1).f1) ((rd_T51 l0 x3_1).f2) ((rd_T51 l0 x3_1).f3))) = some r := H
      have A8 := Aside0.mk A80
      clear A80
      by_cases c9 : t59 = true
      ·subst c9
       have H1 : (if ((rd_T51 l0 x3_1).f1) = 0 then ((spec_l1Value.f ((rd_T51 l0 x3_1).f3)).bind fun t57 => (spec_ChainFault.j1 k1 l0 x3_1 (!t57) ((rd_T51 l0 x3_1).f0) ((rd_T51 l0 x3_1).f1) ((rd_T51 l0 x3_1).f2) ((rd_T51 l0 x3_1).f3))) else ((spec_l5At.f ((rd_T51 l0 x3_1).f1)).bind fun t58 => (if t58 = true then ((spec_l1Value.f ((rd_T51 l0 x3_1).f3)).bind fun t56 => (spec_ChainFault.j1 k1 l0 x3_1 (!t56) ((rd_T51 l0 x3_1).f0) ((rd_T51 l0 x3_1).f1) ((rd_T51 l0 x3_1).f2) ((rd_T51 l0 x3_1).f3))) else (spec_ChainFault.j1 k1 l0 x3_1 true ((rd_T51 l0 x3_1).f0) ((rd_T51 l0 x3_1).f1) ((rd_T51 l0 x3_1).f2) ((rd_T51 l0 x3_1).f3))))) = some r := by rw [if_pos rfl] at H; exact H
       clear H
       have H := H1
       clear H1
       by_cases c10 : ((rd_T51 l0 x3_1).f1) = 0
       ·rw [if_pos c10] at H
        have c10b0 : (((rd_T51 l0 x3_1).f1) == 0) = true := beq_iff_eq.mpr c10
        have c10b1 : (((rd_T51 l0 x3_1).f1) != 0) = false := bne_eq_false_iff_eq.mpr c10
        clear c10
        (first | rw [c10b0] | (simp only [i64_w, i32_w]; rw [c10b0]) | skip)
        replace H := Option.bind_eq_some_iff.mp H
        obtain ⟨t57, A60, H⟩ := H
        replace H : (spec_ChainFault.j1 k1 l0 x3_1 (!t57) ((rd_T51 l0 x3_1).f0) ((rd_T51 l0 x3_1).f1) ((rd_T51 l0 x3_1).f2) ((rd_T51 l0 x3_1).f3)) = some r := H
        have A11 := Aside0.mk A60
        clear A60
        have H' := Aside0.mk H
        clear H
        obtain ⟨hcz12_0, hcz12_1, hcz12_2, hcz12_3, hfz12_0, hfz12_1, hfz12_2, hfz12_3⟩ := Lv.blks4 BK34.out
        go_wp2_with (first | (go_at_call 44; (with_reducible refine (spec_l5Txn.calls ((rd_T51 l0 x3_1).f0) true _ A8.out).mono ?_); rintro e w' ⟨rfl, ⟨nd, rfl⟩⟩; (try first | exact ⟨rfl, _, World.drewN_drewN _ _ _⟩ | exact ⟨rfl, _, Eq.trans (World.drewN_drewN _ _ _) (congrArg (World.drewN _) (Nat.add_assoc _ _ _))⟩)) | (go_at_call 39; (with_reducible refine (spec_l1Value.calls ((rd_T51 l0 x3_1).f3) t57 _ A11.out).mono ?_); rintro e w' ⟨rfl, ⟨nd, rfl⟩⟩; (try first | exact ⟨rfl, _, World.drewN_drewN _ _ _⟩ | exact ⟨rfl, _, Eq.trans (World.drewN_drewN _ _ _) (congrArg (World.drewN _) (Nat.add_assoc _ _ _))⟩)))
        repeat (go_quiet (first | (go_at_call 44; (with_reducible refine (spec_l5Txn.calls ((rd_T51 l0 x3_1).f0) true _ A8.out).mono ?_); rintro e w' ⟨rfl, ⟨nd, rfl⟩⟩; (try first | exact ⟨rfl, _, World.drewN_drewN _ _ _⟩ | exact ⟨rfl, _, Eq.trans (World.drewN_drewN _ _ _) (congrArg (World.drewN _) (Nat.add_assoc _ _ _))⟩)) | (go_at_call 39; (with_reducible refine (spec_l1Value.calls ((rd_T51 l0 x3_1).f3) t57 _ A11.out).mono ?_); rintro e w' ⟨rfl, ⟨nd, rfl⟩⟩; (try first | exact ⟨rfl, _, World.drewN_drewN _ _ _⟩ | exact ⟨rfl, _, Eq.trans (World.drewN_drewN _ _ _) (congrArg (World.drewN _) (Nat.add_assoc _ _ _))⟩))); try go_wp2_with (first | (go_at_call 44; (with_reducible refine (spec_l5Txn.calls ((rd_T51 l0 x3_1).f0) true _ A8.out).mono ?_); rintro e w' ⟨rfl, ⟨nd, rfl⟩⟩; (try first | exact ⟨rfl, _, World.drewN_drewN _ _ _⟩ | exact ⟨rfl, _, Eq.trans (World.drewN_drewN _ _ _) (congrArg (World.drewN _) (Nat.add_assoc _ _ _))⟩)) | (go_at_call 39; (with_reducible refine (spec_l1Value.calls ((rd_T51 l0 x3_1).f3) t57 _ A11.out).mono ?_); rintro e w' ⟨rfl, ⟨nd, rfl⟩⟩; (try first | exact ⟨rfl, _, World.drewN_drewN _ _ _⟩ | exact ⟨rfl, _, Eq.trans (World.drewN_drewN _ _ _) (congrArg (World.drewN _) (Nat.add_assoc _ _ _))⟩))))
        go_meet
        case rel => exact ⟨_, (!t57), zs, H', ⟨by have := HK1.out; first | omega | exact Nat.le_refl _⟩, ⟨by (with_reducible repeat (first | refine blk_drewN ?_ _ | refine blk_drew ?_ | refine blk_alloc ?_ _)); refine blk_put (cs := #[.int .i64 ((rd_T51 l0 x3_1).f0), .int .i64 ((rd_T51 l0 x3_1).f1), .bool ((rd_T51 l0 x3_1).f2), .int .i64 0]) ?_ 3 _ rfl; (with_reducible repeat (first | refine blk_drewN ?_ _ | refine blk_drew ?_ | refine blk_alloc ?_ _)); refine blk_put (cs := #[.int .i64 ((rd_T51 l0 x3_1).f0), .int .i64 ((rd_T51 l0 x3_1).f1), .bool false, .int .i64 0]) ?_ 2 _ rfl; (with_reducible repeat (first | refine blk_drewN ?_ _ | refine blk_drew ?_ | refine blk_alloc ?_ _)); refine blk_put (cs := #[.int .i64 ((rd_T51 l0 x3_1).f0), .int .i64 0, .bool false, .int .i64 0]) ?_ 1 _ rfl; (with_reducible repeat (first | refine blk_drewN ?_ _ | refine blk_drew ?_ | refine blk_alloc ?_ _)); refine blk_put (cs := #[.int .i64 0, .int .i64 0, .bool false, .int .i64 0]) ?_ 0 _ rfl; (with_reducible repeat (first | refine blk_drewN ?_ _ | refine blk_drew ?_ | refine blk_alloc ?_ _)); exact BK34.out⟩, ⟨zb⟩⟩
       rw [if_neg c10] at H
       have c10b0 : (((rd_T51 l0 x3_1).f1) == 0) = false := beq_eq_false_iff_ne.mpr c10
       have c10b1 : (((rd_T51 l0 x3_1).f1) != 0) = true := bne_iff_ne.mpr c10
       (first | rw [c10b0] | (simp only [i64_w, i32_w]; rw [c10b0]) | skip)
       replace H := Option.bind_eq_some_iff.mp H
       obtain ⟨t58, A61, H⟩ := H
       replace H : (if t58 = true then ((spec_l1Value.f ((rd_T51 l0 x3_1).f3)).bind fun t56 => (spec_ChainFault.j1 k1 l0 x3_1 (!t56) ((rd_T51 l0 x3_1).f0) ((rd_T51 l0 x3_1).f1) ((rd_T51 l0 x3_1).f2) ((rd_T51 l0 x3_1).f3))) else (spec_ChainFault.j1 k1 l0 x3_1 true ((rd_T51 l0 x3_1).f0) ((rd_T51 l0 x3_1).f1) ((rd_T51 l0 x3_1).f2) ((rd_T51 l0 x3_1).f3))) = some r := H
       have A13 := Aside0.mk A61
       clear A61
       by_cases c14 : t58 = true
       ·subst c14
        have H1 : ((spec_l1Value.f ((rd_T51 l0 x3_1).f3)).bind fun t56 => (spec_ChainFault.j1 k1 l0 x3_1 (!t56) ((rd_T51 l0 x3_1).f0) ((rd_T51 l0 x3_1).f1) ((rd_T51 l0 x3_1).f2) ((rd_T51 l0 x3_1).f3))) = some r := by rw [if_pos rfl] at H; exact H
        clear H
        have H := H1
        clear H1
        replace H := Option.bind_eq_some_iff.mp H
        obtain ⟨t56, A62, H⟩ := H
        replace H : (spec_ChainFault.j1 k1 l0 x3_1 (!t56) ((rd_T51 l0 x3_1).f0) ((rd_T51 l0 x3_1).f1) ((rd_T51 l0 x3_1).f2) ((rd_T51 l0 x3_1).f3)) = some r := H
        have A15 := Aside0.mk A62
        clear A62
        have H' := Aside0.mk H
        clear H
        obtain ⟨hcz16_0, hcz16_1, hcz16_2, hcz16_3, hfz16_0, hfz16_1, hfz16_2, hfz16_3⟩ := Lv.blks4 BK34.out
        go_wp2_with (first | (go_at_call 44; (with_reducible refine (spec_l5Txn.calls ((rd_T51 l0 x3_1).f0) true _ A8.out).mono ?_); rintro e w' ⟨rfl, ⟨nd, rfl⟩⟩; (try first | exact ⟨rfl, _, World.drewN_drewN _ _ _⟩ | exact ⟨rfl, _, Eq.trans (World.drewN_drewN _ _ _) (congrArg (World.drewN _) (Nat.add_assoc _ _ _))⟩)) | (go_at_call 45; (with_reducible refine (spec_l5At.calls ((rd_T51 l0 x3_1).f1) true _ A13.out).mono ?_); rintro e w' ⟨rfl, ⟨nd, rfl⟩⟩; (try first | exact ⟨rfl, _, World.drewN_drewN _ _ _⟩ | exact ⟨rfl, _, Eq.trans (World.drewN_drewN _ _ _) (congrArg (World.drewN _) (Nat.add_assoc _ _ _))⟩)) | (go_at_call 39; (with_reducible refine (spec_l1Value.calls ((rd_T51 l0 x3_1).f3) t56 _ A15.out).mono ?_); rintro e w' ⟨rfl, ⟨nd, rfl⟩⟩; (try first | exact ⟨rfl, _, World.drewN_drewN _ _ _⟩ | exact ⟨rfl, _, Eq.trans (World.drewN_drewN _ _ _) (congrArg (World.drewN _) (Nat.add_assoc _ _ _))⟩)))
        repeat (go_quiet (first | (go_at_call 44; (with_reducible refine (spec_l5Txn.calls ((rd_T51 l0 x3_1).f0) true _ A8.out).mono ?_); rintro e w' ⟨rfl, ⟨nd, rfl⟩⟩; (try first | exact ⟨rfl, _, World.drewN_drewN _ _ _⟩ | exact ⟨rfl, _, Eq.trans (World.drewN_drewN _ _ _) (congrArg (World.drewN _) (Nat.add_assoc _ _ _))⟩)) | (go_at_call 45; (with_reducible refine (spec_l5At.calls ((rd_T51 l0 x3_1).f1) true _ A13.out).mono ?_); rintro e w' ⟨rfl, ⟨nd, rfl⟩⟩; (try first | exact ⟨rfl, _, World.drewN_drewN _ _ _⟩ | exact ⟨rfl, _, Eq.trans (World.drewN_drewN _ _ _) (congrArg (World.drewN _) (Nat.add_assoc _ _ _))⟩)) | (go_at_call 39; (with_reducible refine (spec_l1Value.calls ((rd_T51 l0 x3_1).f3) t56 _ A15.out).mono ?_); rintro e w' ⟨rfl, ⟨nd, rfl⟩⟩; (try first | exact ⟨rfl, _, World.drewN_drewN _ _ _⟩ | exact ⟨rfl, _, Eq.trans (World.drewN_drewN _ _ _) (congrArg (World.drewN _) (Nat.add_assoc _ _ _))⟩))); try go_wp2_with (first | (go_at_call 44; (with_reducible refine (spec_l5Txn.calls ((rd_T51 l0 x3_1).f0) true _ A8.out).mono ?_); rintro e w' ⟨rfl, ⟨nd, rfl⟩⟩; (try first | exact ⟨rfl, _, World.drewN_drewN _ _ _⟩ | exact ⟨rfl, _, Eq.trans (World.drewN_drewN _ _ _) (congrArg (World.drewN _) (Nat.add_assoc _ _ _))⟩)) | (go_at_call 45; (with_reducible refine (spec_l5At.calls ((rd_T51 l0 x3_1).f1) true _ A13.out).mono ?_); rintro e w' ⟨rfl, ⟨nd, rfl⟩⟩; (try first | exact ⟨rfl, _, World.drewN_drewN _ _ _⟩ | exact ⟨rfl, _, Eq.trans (World.drewN_drewN _ _ _) (congrArg (World.drewN _) (Nat.add_assoc _ _ _))⟩)) | (go_at_call 39; (with_reducible refine (spec_l1Value.calls ((rd_T51 l0 x3_1).f3) t56 _ A15.out).mono ?_); rintro e w' ⟨rfl, ⟨nd, rfl⟩⟩; (try first | exact ⟨rfl, _, World.drewN_drewN _ _ _⟩ | exact ⟨rfl, _, Eq.trans (World.drewN_drewN _ _ _) (congrArg (World.drewN _) (Nat.add_assoc _ _ _))⟩))))
        go_meet
        case rel => exact ⟨_, (!t56), zs, H', ⟨by have := HK1.out; first | omega | exact Nat.le_refl _⟩, ⟨by (with_reducible repeat (first | refine blk_drewN ?_ _ | refine blk_drew ?_ | refine blk_alloc ?_ _)); refine blk_put (cs := #[.int .i64 ((rd_T51 l0 x3_1).f0), .int .i64 ((rd_T51 l0 x3_1).f1), .bool ((rd_T51 l0 x3_1).f2), .int .i64 0]) ?_ 3 _ rfl; (with_reducible repeat (first | refine blk_drewN ?_ _ | refine blk_drew ?_ | refine blk_alloc ?_ _)); refine blk_put (cs := #[.int .i64 ((rd_T51 l0 x3_1).f0), .int .i64 ((rd_T51 l0 x3_1).f1), .bool false, .int .i64 0]) ?_ 2 _ rfl; (with_reducible repeat (first | refine blk_drewN ?_ _ | refine blk_drew ?_ | refine blk_alloc ?_ _)); refine blk_put (cs := #[.int .i64 ((rd_T51 l0 x3_1).f0), .int .i64 0, .bool false, .int .i64 0]) ?_ 1 _ rfl; (with_reducible repeat (first | refine blk_drewN ?_ _ | refine blk_drew ?_ | refine blk_alloc ?_ _)); refine blk_put (cs := #[.int .i64 0, .int .i64 0, .bool false, .int .i64 0]) ?_ 0 _ rfl; (with_reducible repeat (first | refine blk_drewN ?_ _ | refine blk_drew ?_ | refine blk_alloc ?_ _)); exact BK34.out⟩, ⟨zb⟩⟩
       replace c14 := Bool.eq_false_iff.mpr c14
       subst c14
       have H1 : (spec_ChainFault.j1 k1 l0 x3_1 true ((rd_T51 l0 x3_1).f0) ((rd_T51 l0 x3_1).f1) ((rd_T51 l0 x3_1).f2) ((rd_T51 l0 x3_1).f3)) = some r := by rw [if_neg (show ¬ (false = true) by decide)] at H; exact H
       clear H
       have H := H1
       clear H1
       have H' := Aside0.mk H
       clear H
       obtain ⟨hcz17_0, hcz17_1, hcz17_2, hcz17_3, hfz17_0, hfz17_1, hfz17_2, hfz17_3⟩ := Lv.blks4 BK34.out
       go_wp2_with (first | (go_at_call 44; (with_reducible refine (spec_l5Txn.calls ((rd_T51 l0 x3_1).f0) true _ A8.out).mono ?_); rintro e w' ⟨rfl, ⟨nd, rfl⟩⟩; (try first | exact ⟨rfl, _, World.drewN_drewN _ _ _⟩ | exact ⟨rfl, _, Eq.trans (World.drewN_drewN _ _ _) (congrArg (World.drewN _) (Nat.add_assoc _ _ _))⟩)) | (go_at_call 45; (with_reducible refine (spec_l5At.calls ((rd_T51 l0 x3_1).f1) false _ A13.out).mono ?_); rintro e w' ⟨rfl, ⟨nd, rfl⟩⟩; (try first | exact ⟨rfl, _, World.drewN_drewN _ _ _⟩ | exact ⟨rfl, _, Eq.trans (World.drewN_drewN _ _ _) (congrArg (World.drewN _) (Nat.add_assoc _ _ _))⟩)))
       repeat (go_quiet (first | (go_at_call 44; (with_reducible refine (spec_l5Txn.calls ((rd_T51 l0 x3_1).f0) true _ A8.out).mono ?_); rintro e w' ⟨rfl, ⟨nd, rfl⟩⟩; (try first | exact ⟨rfl, _, World.drewN_drewN _ _ _⟩ | exact ⟨rfl, _, Eq.trans (World.drewN_drewN _ _ _) (congrArg (World.drewN _) (Nat.add_assoc _ _ _))⟩)) | (go_at_call 45; (with_reducible refine (spec_l5At.calls ((rd_T51 l0 x3_1).f1) false _ A13.out).mono ?_); rintro e w' ⟨rfl, ⟨nd, rfl⟩⟩; (try first | exact ⟨rfl, _, World.drewN_drewN _ _ _⟩ | exact ⟨rfl, _, Eq.trans (World.drewN_drewN _ _ _) (congrArg (World.drewN _) (Nat.add_assoc _ _ _))⟩))); try go_wp2_with (first | (go_at_call 44; (with_reducible refine (spec_l5Txn.calls ((rd_T51 l0 x3_1).f0) true _ A8.out).mono ?_); rintro e w' ⟨rfl, ⟨nd, rfl⟩⟩; (try first | exact ⟨rfl, _, World.drewN_drewN _ _ _⟩ | exact ⟨rfl, _, Eq.trans (World.drewN_drewN _ _ _) (congrArg (World.drewN _) (Nat.add_assoc _ _ _))⟩)) | (go_at_call 45; (with_reducible refine (spec_l5At.calls ((rd_T51 l0 x3_1).f1) false _ A13.out).mono ?_); rintro e w' ⟨rfl, ⟨nd, rfl⟩⟩; (try first | exact ⟨rfl, _, World.drewN_drewN _ _ _⟩ | exact ⟨rfl, _, Eq.trans (World.drewN_drewN _ _ _) (congrArg (World.drewN _) (Nat.add_assoc _ _ _))⟩))))
       go_meet
       case rel => exact ⟨_, (true), zs, H', ⟨by have := HK1.out; first | omega | exact Nat.le_refl _⟩, ⟨by (with_reducible repeat (first | refine blk_drewN ?_ _ | refine blk_drew ?_ | refine blk_alloc ?_ _)); refine blk_put (cs := #[.int .i64 ((rd_T51 l0 x3_1).f0), .int .i64 ((rd_T51 l0 x3_1).f1), .bool ((rd_T51 l0 x3_1).f2), .int .i64 0]) ?_ 3 _ rfl; (with_reducible repeat (first | refine blk_drewN ?_ _ | refine blk_drew ?_ | refine blk_alloc ?_ _)); refine blk_put (cs := #[.int .i64 ((rd_T51 l0 x3_1).f0), .int .i64 ((rd_T51 l0 x3_1).f1), .bool false, .int .i64 0]) ?_ 2 _ rfl; (with_reducible repeat (first | refine blk_drewN ?_ _ | refine blk_drew ?_ | refine blk_alloc ?_ _)); refine blk_put (cs := #[.int .i64 ((rd_T51 l0 x3_1).f0), .int .i64 0, .bool false, .int .i64 0]) ?_ 1 _ rfl; (with_reducible repeat (first | refine blk_drewN ?_ _ | refine blk_drew ?_ | refine blk_alloc ?_ _)); refine blk_put (cs := #[.int .i64 0, .int .i64 0, .bool false, .int .i64 0]) ?_ 0 _ rfl; (with_reducible repeat (first | refine blk_drewN ?_ _ | refine blk_drew ?_ | refine blk_alloc ?_ _)); exact BK34.out⟩, ⟨zb⟩⟩
      replace c9 := Bool.eq_false_iff.mpr c9
      subst c9
      have H1 : (spec_ChainFault.j1 k1 l0 x3_1 true ((rd_T51 l0 x3_1).f0) ((rd_T51 l0 x3_1).f1) ((rd_T51 l0 x3_1).f2) ((rd_T51 l0 x3_1).f3)) = some r := by rw [if_neg (show ¬ (false = true) by decide)] at H; exact H
      clear H
      have H := H1
      clear H1
      have H' := Aside0.mk H
      clear H
      obtain ⟨hcz18_0, hcz18_1, hcz18_2, hcz18_3, hfz18_0, hfz18_1, hfz18_2, hfz18_3⟩ := Lv.blks4 BK34.out
      go_wp2_with (first | (go_at_call 44; (with_reducible refine (spec_l5Txn.calls ((rd_T51 l0 x3_1).f0) false _ A8.out).mono ?_); rintro e w' ⟨rfl, ⟨nd, rfl⟩⟩; (try first | exact ⟨rfl, _, World.drewN_drewN _ _ _⟩ | exact ⟨rfl, _, Eq.trans (World.drewN_drewN _ _ _) (congrArg (World.drewN _) (Nat.add_assoc _ _ _))⟩)))
      repeat (go_quiet (first | (go_at_call 44; (with_reducible refine (spec_l5Txn.calls ((rd_T51 l0 x3_1).f0) false _ A8.out).mono ?_); rintro e w' ⟨rfl, ⟨nd, rfl⟩⟩; (try first | exact ⟨rfl, _, World.drewN_drewN _ _ _⟩ | exact ⟨rfl, _, Eq.trans (World.drewN_drewN _ _ _) (congrArg (World.drewN _) (Nat.add_assoc _ _ _))⟩))); try go_wp2_with (first | (go_at_call 44; (with_reducible refine (spec_l5Txn.calls ((rd_T51 l0 x3_1).f0) false _ A8.out).mono ?_); rintro e w' ⟨rfl, ⟨nd, rfl⟩⟩; (try first | exact ⟨rfl, _, World.drewN_drewN _ _ _⟩ | exact ⟨rfl, _, Eq.trans (World.drewN_drewN _ _ _) (congrArg (World.drewN _) (Nat.add_assoc _ _ _))⟩))))
      go_meet
      case rel => exact ⟨_, (true), zs, H', ⟨by have := HK1.out; first | omega | exact Nat.le_refl _⟩, ⟨by (with_reducible repeat (first | refine blk_drewN ?_ _ | refine blk_drew ?_ | refine blk_alloc ?_ _)); refine blk_put (cs := #[.int .i64 ((rd_T51 l0 x3_1).f0), .int .i64 ((rd_T51 l0 x3_1).f1), .bool ((rd_T51 l0 x3_1).f2), .int .i64 0]) ?_ 3 _ rfl; (with_reducible repeat (first | refine blk_drewN ?_ _ | refine blk_drew ?_ | refine blk_alloc ?_ _)); refine blk_put (cs := #[.int .i64 ((rd_T51 l0 x3_1).f0), .int .i64 ((rd_T51 l0 x3_1).f1), .bool false, .int .i64 0]) ?_ 2 _ rfl; (with_reducible repeat (first | refine blk_drewN ?_ _ | refine blk_drew ?_ | refine blk_alloc ?_ _)); refine blk_put (cs := #[.int .i64 ((rd_T51 l0 x3_1).f0), .int .i64 0, .bool false, .int .i64 0]) ?_ 1 _ rfl; (with_reducible repeat (first | refine blk_drewN ?_ _ | refine blk_drew ?_ | refine blk_alloc ?_ _)); refine blk_put (cs := #[.int .i64 0, .int .i64 0, .bool false, .int .i64 0]) ?_ 0 _ rfl; (with_reducible repeat (first | refine blk_drewN ?_ _ | refine blk_drew ?_ | refine blk_alloc ?_ _)); exact BK34.out⟩, ⟨zb⟩⟩
     case rest =>
      clear HC5
      try clear c1
      try clear c2
      try clear c2b0
      try clear c2b1
      try clear p2
      try clear q2
      try clear hx2
      try clear c3
      try clear c3b0
      try clear c4
      try clear c4b0
      try clear c9
      try clear c10
      try clear c10b0
      try clear c10b1
      try clear c14
      try clear hcz12_0 hcz12_1 hcz12_2 hcz12_3
      try clear hcz16_0 hcz16_1 hcz16_2 hcz16_3
      try clear hcz17_0 hcz17_1 hcz17_2 hcz17_3
      try clear hcz18_0 hcz18_1 hcz18_2 hcz18_3
      try clear hcz7_0 hcz7_1 hcz7_2 hcz7_3
      try clear hfz12_0 hfz12_1 hfz12_2 hfz12_3
      try clear hfz16_0 hfz16_1 hfz16_2 hfz16_3
      try clear hfz17_0 hfz17_1 hfz17_2 hfz17_3
      try clear hfz18_0 hfz18_1 hfz18_2 hfz18_3
      try clear hfz7_0 hfz7_1 hfz7_2 hfz7_3
      try clear hx55_0
      try clear hx55_1
      try clear hx55_2
      try clear hx55_3
      try clear p2
      try clear p233
      try clear q55
      obtain ⟨kq, x38_4, rfl, HA, HJ4, BK34, HB⟩ := hcut
      cases kq with
      | zero => exact absurd HA.out (by simp [spec_ChainFault.j1])
      | succ kj4 =>
       have H := HA.out
       clear HA
       simp only [spec_ChainFault.j1] at H
       by_cases c19 : x38_4 = true
       ·subst c19
        have H1 : (some 3) = some r := by rw [if_pos rfl] at H; exact H
        clear H
        have H := H1
        clear H1
        obtain rfl := Option.some.inj H
        go_wp2
        repeat (go_quiet (fail); try go_wp2)
        go_ret
        exact ⟨ze, zb⟩
       replace c19 := Bool.eq_false_iff.mpr c19
       subst c19
       have H1 : (if ((rd_T51 l0 x3_1).f2) = true then (if ((rd_T51 l0 x3_1).f3) = 0 then (if ((rd_T51 l0 x3_1).f1) = 0 then (if x3_1 > 0 then (some 1) else (spec_ChainFault.l0 kj4 l0 (wrap64 (x3_1 + 1)))) else (if x3_1 > 0 then (if 0 ≤ (wrap64 (x3_1 - 1)) then (if (wrap64 (x3_1 - 1)) < (l0.length : Int) then (if ((rd_T51 l0 (wrap64 (x3_1 - 1))).f1) = 0 then (spec_ChainFault.l0 kj4 l0 (wrap64 (x3_1 + 1))) else (if ((rd_T51 l0 x3_1).f1) ≥ ((rd_T51 l0 (wrap64 (x3_1 - 1))).f1) then (some 1) else (spec_ChainFault.l0 kj4 l0 (wrap64 (x3_1 + 1))))) else (none)) else (none)) else (spec_ChainFault.l0 kj4 l0 (wrap64 (x3_1 + 1))))) else (some 1)) else (if ((rd_T51 l0 x3_1).f1) = 0 then (if x3_1 > 0 then (some 1) else (spec_ChainFault.l0 kj4 l0 (wrap64 (x3_1 + 1)))) else (if x3_1 > 0 then (if 0 ≤ (wrap64 (x3_1 - 1)) then (if (wrap64 (x3_1 - 1)) < (l0.length : Int) then (if ((rd_T51 l0 (wrap64 (x3_1 - 1))).f1) = 0 then (spec_ChainFault.l0 kj4 l0 (wrap64 (x3_1 + 1))) else (if ((rd_T51 l0 x3_1).f1) ≥ ((rd_T51 l0 (wrap64 (x3_1 - 1))).f1) then (some 1) else (spec_ChainFault.l0 kj4 l0 (wrap64 (x3_1 + 1))))) else (none)) else (none)) else (spec_ChainFault.l0 kj4 l0 (wrap64 (x3_1 + 1)))))) = some r := by rw [if_neg (show ¬ (false = true) by decide)] at H; exact H
       clear H
       have H := H1
       clear H1
       by_cases c20 : ((rd_T51 l0 x3_1).f2) = true
       ·rw [if_pos c20] at H
        have c20b0 : ((rd_T51 l0 x3_1).f2) = true := c20
        clear c20
        by_cases c21 : ((rd_T51 l0 x3_1).f3) = 0
        ·rw [if_pos c21] at H
         have c21b0 : (((rd_T51 l0 x3_1).f3) == 0) = true := beq_iff_eq.mpr c21
         have c21b1 : (((rd_T51 l0 x3_1).f3) != 0) = false := bne_eq_false_iff_eq.mpr c21
         clear c21
         by_cases c22 : ((rd_T51 l0 x3_1).f1) = 0
         ·rw [if_pos c22] at H
          have c22b0 : (((rd_T51 l0 x3_1).f1) == 0) = true := beq_iff_eq.mpr c22
          have c22b1 : (((rd_T51 l0 x3_1).f1) != 0) = false := bne_eq_false_iff_eq.mpr c22
          clear c22
          by_cases c23 : x3_1 > 0
          ·rw [if_pos c23] at H
           have c23b0 : decide (0 < x3_1) = true := decide_eq_true c23
           clear c23
           obtain rfl := Option.some.inj H
           obtain ⟨hcz24_0, hcz24_1, hcz24_2, hcz24_3, hfz24_0, hfz24_1, hfz24_2, hfz24_3⟩ := Lv.blks4 BK34.out
           go_wp2
           repeat (go_quiet (fail); try go_wp2)
           go_ret
           exact ⟨ze, zb⟩
          rw [if_neg c23] at H
          have c23b0 : decide (0 < x3_1) = false := decide_eq_false c23
          clear c23
          have H' := Aside0.mk H
          clear H
          obtain ⟨hcz25_0, hcz25_1, hcz25_2, hcz25_3, hfz25_0, hfz25_1, hfz25_2, hfz25_3⟩ := Lv.blks4 BK34.out
          go_wp2
          repeat (go_quiet (fail); try go_wp2)
          go_roundg kj4
          case measure => have := HK1.out; have := HJ4.out; omega
          case rel => exact ⟨(wrap64 (x3_1 + 1)), zs, H', ⟨by have := HK1.out; have := HJ4.out; omega⟩, ⟨zb⟩⟩
         rw [if_neg c22] at H
         have c22b0 : (((rd_T51 l0 x3_1).f1) == 0) = false := beq_eq_false_iff_ne.mpr c22
         have c22b1 : (((rd_T51 l0 x3_1).f1) != 0) = true := bne_iff_ne.mpr c22
         by_cases c26 : x3_1 > 0
         ·rw [if_pos c26] at H
          have c26b0 : decide (0 < x3_1) = true := decide_eq_true c26
          clear c26
          obtain ⟨ji27, hji27⟩ : ∃ j_ : Int, (wrap64 (x3_1 - 1)) = j_ := ⟨_, rfl⟩
          replace H : (if 0 ≤ (ji27) then (if (ji27) < (l0.length : Int) then (if ((rd_T51 l0 (ji27)).f1) = 0 then (spec_ChainFault.l0 kj4 l0 (wrap64 (x3_1 + 1))) else (if ((rd_T51 l0 x3_1).f1) ≥ ((rd_T51 l0 (ji27)).f1) then (some 1) else (spec_ChainFault.l0 kj4 l0 (wrap64 (x3_1 + 1))))) else (none)) else (none)) = some r := by first | (rw [hji27] at H; exact H) | (simp only [hji27] at H ⊢; exact H)
          have hji27w : (IntKind.i64.wrap (x3_1 - 1)) = ji27 := (i64_w _).trans hji27
          by_cases c28 : 0 ≤ (ji27)
          ·rw [if_pos c28] at H
           have c28b0 : decide (0 ≤ (ji27)) = true := decide_eq_true c28
           clear c28
           by_cases c29 : (ji27) < (l0.length : Int)
           ·rw [if_pos c29] at H
            have c29b0 : decide ((ji27) < (l0.length : Int)) = true := decide_eq_true c29
            clear c29
            by_cases c30 : ((rd_T51 l0 (ji27)).f1) = 0
            ·rw [if_pos c30] at H
             have c30b0 : (((rd_T51 l0 (ji27)).f1) == 0) = true := beq_iff_eq.mpr c30
             have c30b1 : (((rd_T51 l0 (ji27)).f1) != 0) = false := bne_eq_false_iff_eq.mpr c30
             clear c30
             have H' := Aside0.mk H
             clear H
             obtain ⟨hcz31_0, hcz31_1, hcz31_2, hcz31_3, hfz31_0, hfz31_1, hfz31_2, hfz31_3⟩ := Lv.blks4 BK34.out
             have p239 : 0 ≤ ((ji27) : Int) := of_decide_eq_true za
             have q49 : (ji27) < (l0.length : Int) := of_decide_eq_true za
             obtain ⟨ad49, e239, hx49_0, hx49_1, hx49_2, hx49_3⟩ := at_T51 HR0.out (ji27) p239 q49
             obtain rfl : ad55 = ad49 := (by injection e239)
             replace hx49_0 := zx HB hx49_0
             replace hx49_1 := zx HB hx49_1
             replace hx49_2 := zx HB hx49_2
             replace hx49_3 := zx HB hx49_3
             replace p239 := eq_true p239
             replace q49 := eq_true q49
             go_wp2
             repeat (go_quiet (fail); try go_wp2)
             go_roundg kj4
             case measure => have := HK1.out; have := HJ4.out; omega
             case rel => exact ⟨(wrap64 (x3_1 + 1)), zs, H', ⟨by have := HK1.out; have := HJ4.out; omega⟩, ⟨zb⟩⟩
            rw [if_neg c30] at H
            have c30b0 : (((rd_T51 l0 (ji27)).f1) == 0) = false := beq_eq_false_iff_ne.mpr c30
            have c30b1 : (((rd_T51 l0 (ji27)).f1) != 0) = true := bne_iff_ne.mpr c30
            have HX_ := Aside0.mk H
            clear H
            obtain ⟨hcz33_0, hcz33_1, hcz33_2, hcz33_3, hfz33_0, hfz33_1, hfz33_2, hfz33_3⟩ := Lv.blks4 BK34.out
            have p239 : 0 ≤ ((ji27) : Int) := of_decide_eq_true za
            have q49 : (ji27) < (l0.length : Int) := of_decide_eq_true za
            obtain ⟨ad49, e239, hx49_0, hx49_1, hx49_2, hx49_3⟩ := at_T51 HR0.out (ji27) p239 q49
            obtain rfl : ad55 = ad49 := (by injection e239)
            replace hx49_0 := zx HB hx49_0
            replace hx49_1 := zx HB hx49_1
            replace hx49_2 := zx HB hx49_2
            replace hx49_3 := zx HB hx49_3
            replace p239 := eq_true p239
            replace q49 := eq_true q49
            have p240 : 0 ≤ ((ji27) : Int) := of_decide_eq_true za
            have q53 : (ji27) < (l0.length : Int) := of_decide_eq_true za
            obtain ⟨ad53, e240, hx53_0, hx53_1, hx53_2, hx53_3⟩ := at_T51 HR0.out (ji27) p240 q53
            obtain rfl : ad55 = ad53 := (by injection e240)
            replace hx53_0 := zx HB hx53_0
            replace hx53_1 := zx HB hx53_1
            replace hx53_2 := zx HB hx53_2
            replace hx53_3 := zx HB hx53_3
            replace p240 := eq_true p240
            replace q53 := eq_true q53
            have H := HX_.out
            clear HX_
            by_cases c32 : ((rd_T51 l0 x3_1).f1) ≥ ((rd_T51 l0 (ji27)).f1)
            ·rw [if_pos c32] at H
             have c32b0 : decide (((rd_T51 l0 (ji27)).f1) ≤ ((rd_T51 l0 x3_1).f1)) = true := decide_eq_true c32
             clear c32
             obtain rfl := Option.some.inj H
             go_wp2
             repeat (go_quiet (fail); try go_wp2)
             go_ret
             exact ⟨by first | rfl | (simp [errW_none, errW_some] <;> rfl) | (simp only [← hji27]; first | rfl | (simp [errW_none, errW_some] <;> rfl)) | (simp [*, errW_none, errW_some] <;> rfl), zb⟩
            rw [if_neg c32] at H
            have c32b0 : decide (((rd_T51 l0 (ji27)).f1) ≤ ((rd_T51 l0 x3_1).f1)) = false := decide_eq_false c32
            clear c32
            have H' := Aside0.mk H
            clear H
            go_wp2
            repeat (go_quiet (fail); try go_wp2)
            go_roundg kj4
            case measure => have := HK1.out; have := HJ4.out; omega
            case rel => exact ⟨(wrap64 (x3_1 + 1)), zs, H', ⟨by have := HK1.out; have := HJ4.out; omega⟩, ⟨zb⟩⟩
           rw [if_neg c29] at H
           exact absurd H (by simp)
          rw [if_neg c28] at H
          exact absurd H (by simp)
         rw [if_neg c26] at H
         have c26b0 : decide (0 < x3_1) = false := decide_eq_false c26
         clear c26
         have H' := Aside0.mk H
         clear H
         obtain ⟨hcz35_0, hcz35_1, hcz35_2, hcz35_3, hfz35_0, hfz35_1, hfz35_2, hfz35_3⟩ := Lv.blks4 BK34.out
         go_wp2
         repeat (go_quiet (fail); try go_wp2)
         go_roundg kj4
         case measure => have := HK1.out; have := HJ4.out; omega
         case rel => exact ⟨(wrap64 (x3_1 + 1)), zs, H', ⟨by have := HK1.out; have := HJ4.out; omega⟩, ⟨zb⟩⟩
        rw [if_neg c21] at H
        have c21b0 : (((rd_T51 l0 x3_1).f3) == 0) = false := beq_eq_false_iff_ne.mpr c21
        have c21b1 : (((rd_T51 l0 x3_1).f3) != 0) = true := bne_iff_ne.mpr c21
        obtain rfl := Option.some.inj H
        obtain ⟨hcz36_0, hcz36_1, hcz36_2, hcz36_3, hfz36_0, hfz36_1, hfz36_2, hfz36_3⟩ := Lv.blks4 BK34.out
        go_wp2
        repeat (go_quiet (fail); try go_wp2)
        go_ret
        exact ⟨ze, zb⟩
       rw [if_neg c20] at H
       have c20b0 : ((rd_T51 l0 x3_1).f2) = false := by simpa using c20
       clear c20
       by_cases c37 : ((rd_T51 l0 x3_1).f1) = 0
       ·rw [if_pos c37] at H
        have c37b0 : (((rd_T51 l0 x3_1).f1) == 0) = true := beq_iff_eq.mpr c37
        have c37b1 : (((rd_T51 l0 x3_1).f1) != 0) = false := bne_eq_false_iff_eq.mpr c37
        clear c37
        by_cases c38 : x3_1 > 0
        ·rw [if_pos c38] at H
         have c38b0 : decide (0 < x3_1) = true := decide_eq_true c38
         clear c38
         obtain rfl := Option.some.inj H
         obtain ⟨hcz39_0, hcz39_1, hcz39_2, hcz39_3, hfz39_0, hfz39_1, hfz39_2, hfz39_3⟩ := Lv.blks4 BK34.out
         go_wp2
         repeat (go_quiet (fail); try go_wp2)
         go_ret
         exact ⟨ze, zb⟩
        rw [if_neg c38] at H
        have c38b0 : decide (0 < x3_1) = false := decide_eq_false c38
        clear c38
        have H' := Aside0.mk H
        clear H
        obtain ⟨hcz40_0, hcz40_1, hcz40_2, hcz40_3, hfz40_0, hfz40_1, hfz40_2, hfz40_3⟩ := Lv.blks4 BK34.out
        go_wp2
        repeat (go_quiet (fail); try go_wp2)
        go_roundg kj4
        case measure => have := HK1.out; have := HJ4.out; omega
        case rel => exact ⟨(wrap64 (x3_1 + 1)), zs, H', ⟨by have := HK1.out; have := HJ4.out; omega⟩, ⟨zb⟩⟩
       rw [if_neg c37] at H
       have c37b0 : (((rd_T51 l0 x3_1).f1) == 0) = false := beq_eq_false_iff_ne.mpr c37
       have c37b1 : (((rd_T51 l0 x3_1).f1) != 0) = true := bne_iff_ne.mpr c37
       by_cases c41 : x3_1 > 0
       ·rw [if_pos c41] at H
        have c41b0 : decide (0 < x3_1) = true := decide_eq_true c41
        clear c41
        obtain ⟨ji42, hji42⟩ : ∃ j_ : Int, (wrap64 (x3_1 - 1)) = j_ := ⟨_, rfl⟩
        replace H : (if 0 ≤ (ji42) then (if (ji42) < (l0.length : Int) then (if ((rd_T51 l0 (ji42)).f1) = 0 then (spec_ChainFault.l0 kj4 l0 (wrap64 (x3_1 + 1))) else (if ((rd_T51 l0 x3_1).f1) ≥ ((rd_T51 l0 (ji42)).f1) then (some 1) else (spec_ChainFault.l0 kj4 l0 (wrap64 (x3_1 + 1))))) else (none)) else (none)) = some r := by first | (rw [hji42] at H; exact H) | (simp only [hji42] at H ⊢; exact H)
        have hji42w : (IntKind.i64.wrap (x3_1 - 1)) = ji42 := (i64_w _).trans hji42
        by_cases c43 : 0 ≤ (ji42)
        ·rw [if_pos c43] at H
         have c43b0 : decide (0 ≤ (ji42)) = true := decide_eq_true c43
         clear c43
         by_cases c44 : (ji42) < (l0.length : Int)
         ·rw [if_pos c44] at H
          have c44b0 : decide ((ji42) < (l0.length : Int)) = true := decide_eq_true c44
          clear c44
          by_cases c45 : ((rd_T51 l0 (ji42)).f1) = 0
          ·rw [if_pos c45] at H
           have c45b0 : (((rd_T51 l0 (ji42)).f1) == 0) = true := beq_iff_eq.mpr c45
           have c45b1 : (((rd_T51 l0 (ji42)).f1) != 0) = false := bne_eq_false_iff_eq.mpr c45
           clear c45
           have H' := Aside0.mk H
           clear H
           obtain ⟨hcz46_0, hcz46_1, hcz46_2, hcz46_3, hfz46_0, hfz46_1, hfz46_2, hfz46_3⟩ := Lv.blks4 BK34.out
           have p241 : 0 ≤ ((ji42) : Int) := of_decide_eq_true za
           have q52 : (ji42) < (l0.length : Int) := of_decide_eq_true za
           obtain ⟨ad52, e241, hx52_0, hx52_1, hx52_2, hx52_3⟩ := at_T51 HR0.out (ji42) p241 q52
           obtain rfl : ad55 = ad52 := (by injection e241)
           replace hx52_0 := zx HB hx52_0
           replace hx52_1 := zx HB hx52_1
           replace hx52_2 := zx HB hx52_2
           replace hx52_3 := zx HB hx52_3
           replace p241 := eq_true p241
           replace q52 := eq_true q52
           go_wp2
           repeat (go_quiet (fail); try go_wp2)
           go_roundg kj4
           case measure => have := HK1.out; have := HJ4.out; omega
           case rel => exact ⟨(wrap64 (x3_1 + 1)), zs, H', ⟨by have := HK1.out; have := HJ4.out; omega⟩, ⟨zb⟩⟩
          rw [if_neg c45] at H
          have c45b0 : (((rd_T51 l0 (ji42)).f1) == 0) = false := beq_eq_false_iff_ne.mpr c45
          have c45b1 : (((rd_T51 l0 (ji42)).f1) != 0) = true := bne_iff_ne.mpr c45
          have HX_ := Aside0.mk H
          clear H
          obtain ⟨hcz48_0, hcz48_1, hcz48_2, hcz48_3, hfz48_0, hfz48_1, hfz48_2, hfz48_3⟩ := Lv.blks4 BK34.out
          have p241 : 0 ≤ ((ji42) : Int) := of_decide_eq_true za
          have q52 : (ji42) < (l0.length : Int) := of_decide_eq_true za
          obtain ⟨ad52, e241, hx52_0, hx52_1, hx52_2, hx52_3⟩ := at_T51 HR0.out (ji42) p241 q52
          obtain rfl : ad55 = ad52 := (by injection e241)
          replace hx52_0 := zx HB hx52_0
          replace hx52_1 := zx HB hx52_1
          replace hx52_2 := zx HB hx52_2
          replace hx52_3 := zx HB hx52_3
          replace p241 := eq_true p241
          replace q52 := eq_true q52
          have p242 : 0 ≤ ((ji42) : Int) := of_decide_eq_true za
          have q54 : (ji42) < (l0.length : Int) := of_decide_eq_true za
          obtain ⟨ad54, e242, hx54_0, hx54_1, hx54_2, hx54_3⟩ := at_T51 HR0.out (ji42) p242 q54
          obtain rfl : ad55 = ad54 := (by injection e242)
          replace hx54_0 := zx HB hx54_0
          replace hx54_1 := zx HB hx54_1
          replace hx54_2 := zx HB hx54_2
          replace hx54_3 := zx HB hx54_3
          replace p242 := eq_true p242
          replace q54 := eq_true q54
          have H := HX_.out
          clear HX_
          by_cases c47 : ((rd_T51 l0 x3_1).f1) ≥ ((rd_T51 l0 (ji42)).f1)
          ·rw [if_pos c47] at H
           have c47b0 : decide (((rd_T51 l0 (ji42)).f1) ≤ ((rd_T51 l0 x3_1).f1)) = true := decide_eq_true c47
           clear c47
           obtain rfl := Option.some.inj H
           go_wp2
           repeat (go_quiet (fail); try go_wp2)
           go_ret
           exact ⟨by first | rfl | (simp [errW_none, errW_some] <;> rfl) | (simp only [← hji42]; first | rfl | (simp [errW_none, errW_some] <;> rfl)) | (simp [*, errW_none, errW_some] <;> rfl), zb⟩
          rw [if_neg c47] at H
          have c47b0 : decide (((rd_T51 l0 (ji42)).f1) ≤ ((rd_T51 l0 x3_1).f1)) = false := decide_eq_false c47
          clear c47
          have H' := Aside0.mk H
          clear H
          go_wp2
          repeat (go_quiet (fail); try go_wp2)
          go_roundg kj4
          case measure => have := HK1.out; have := HJ4.out; omega
          case rel => exact ⟨(wrap64 (x3_1 + 1)), zs, H', ⟨by have := HK1.out; have := HJ4.out; omega⟩, ⟨zb⟩⟩
         rw [if_neg c44] at H
         exact absurd H (by simp)
        rw [if_neg c43] at H
        exact absurd H (by simp)
       rw [if_neg c41] at H
       have c41b0 : decide (0 < x3_1) = false := decide_eq_false c41
       clear c41
       have H' := Aside0.mk H
       clear H
       obtain ⟨hcz50_0, hcz50_1, hcz50_2, hcz50_3, hfz50_0, hfz50_1, hfz50_2, hfz50_3⟩ := Lv.blks4 BK34.out
       go_wp2
       repeat (go_quiet (fail); try go_wp2)
       go_roundg kj4
       case measure => have := HK1.out; have := HJ4.out; omega
       case rel => exact ⟨(wrap64 (x3_1 + 1)), zs, H', ⟨by have := HK1.out; have := HJ4.out; omega⟩, ⟨zb⟩⟩
    rw [if_neg c4] at H
    exact absurd H (by simp)
   rw [if_neg c3] at H
   have c3b0 : decide (x3_1 < (l0.length : Int)) = false := decide_eq_false c3
   clear c3
   obtain rfl := Option.some.inj H
   go_wp2
   repeat (go_quiet (fail); try go_wp2)
   go_ret
   exact ⟨ze, zb⟩
set_option maxHeartbeats 8000000 in
set_option maxRecDepth 100000 in
theorem impl_viewCode.calls (k : Nat) (A0 : Option Addr) (c0 : Nat) (l0 : List (S51)) (a1_0 : Int) (a1_1 : Int) (r : Int) (w : World) (hr0 : Kd.C k51 w A0 l0.length l0) (hc0 : l0.length ≤ c0) (h : impl_viewCode.f k l0 a1_0 a1_1 = some r) :
 Calls Try.prog 30 #[.slice A0 l0.length c0, .agg #[.int .i64 a1_0, .int .i64 a1_1]] w fun e w' => e = .returned (.int .i64 r) ∧ Below w.heap.size w w' := by
 have hu32 := Try.underlying32
 have HR0 := Aside0.mk hr0
 have HC0 := Aside0.mk hc0
 clear hr0 hc0
 have HB := Aside0.mk (Below.refl w.heap.size w)
 have H : ((impl_ChainFault.f k l0).bind fun t21 => (if t21 = 0 then ((impl_isLsn.f a1_0).bind fun t24 => (if t24 = true then ((impl_within.f a1_1 0 999).bind fun t22 => (if t22 = true then (some t21) else (some 3))) else (some 3))) else (some t21))) = some r := h
 clear h
 replace H := Option.bind_eq_some_iff.mp H
 obtain ⟨t21, A30, H⟩ := H
 replace H : (if t21 = 0 then ((impl_isLsn.f a1_0).bind fun t24 => (if t24 = true then ((impl_within.f a1_1 0 999).bind fun t22 => (if t22 = true then (some t21) else (some 3))) else (some 3))) else (some t21)) = some r := H
 have A3 := Aside0.mk A30
 clear A30
 by_cases c4 : t21 = 0
 ·rw [if_pos c4] at H
  have c4b0 : (t21 == 0) = true := beq_iff_eq.mpr c4
  have c4b1 : (t21 != 0) = false := bne_eq_false_iff_eq.mpr c4
  clear c4
  replace H := Option.bind_eq_some_iff.mp H
  obtain ⟨t24, A50, H⟩ := H
  replace H : (if t24 = true then ((impl_within.f a1_1 0 999).bind fun t22 => (if t22 = true then (some t21) else (some 3))) else (some 3)) = some r := H
  have A5 := Aside0.mk A50
  clear A50
  by_cases c6 : t24 = true
  ·subst c6
   have H1 : ((impl_within.f a1_1 0 999).bind fun t22 => (if t22 = true then (some t21) else (some 3))) = some r := by rw [if_pos rfl] at H; exact H
   clear H
   have H := H1
   clear H1
   replace H := Option.bind_eq_some_iff.mp H
   obtain ⟨t22, A70, H⟩ := H
   replace H : (if t22 = true then (some t21) else (some 3)) = some r := H
   have A7 := Aside0.mk A70
   clear A70
   by_cases c8 : t22 = true
   ·subst c8
    have H1 : (some t21) = some r := by rw [if_pos rfl] at H; exact H
    clear H
    have H := H1
    clear H1
    obtain rfl := Option.some.inj H
    go_enter Try.func30, Try.ntmps30
    go_wp2_with (first | ((with_reducible refine gate_dst (N := 3) rfl ?_); refine box_event ?hg (N := 3) ?hd (cs := #[.int .i64 a1_0, .int .i64 a1_1]) (t := 32) ?hr ?_; (case hd => rfl); (case hg => rfl); (case hr => first | (go_simp; done) | (go_simp; rfl)); intro gb20 hg w9 hbox hb; have n0_ := Aside0.mk (below_step zb hb); have n1_ := Aside0.mk (hbox); have n2_ := Aside0.mk ((by rw [hg]; exact (below_size zb) : w.heap.size ≤ gb20)); have n3_ := n2_; clear HB; have HB := n0_; have BK20 := n1_; have GW20 := n2_; have GE20 := n3_; clear n0_ n1_ n2_ n3_; clear hb hbox hg) | ((with_reducible refine gate_callee (f := 9) rfl ?_); refine goesL_ (some 7) rfl rfl Try.func9 (by kernel_rfl) rfl #[.slice A0 l0.length c0] rfl zm ?_; (with_reducible refine (impl_ChainFault.calls k _ _ l0 t21 _ ?side1 ?side2 A3.out).mono ?_); (case side1 => repeat (first | exact (Kd.C_below HR0.out HB.out) | (with_reducible first | refine Kd.C_alloc ?_ _ | refine Kd.C_drewN ?_ _ | refine Kd.C_drew ?_))); (case side2 => exact HC0.out); rintro e w10 ⟨rfl, hb⟩; refine ⟨_, rfl, ?_⟩; have n0_ := Aside0.mk (blk_below (g := gb20) (o := .cells #[.int .i64 a1_0, .int .i64 a1_1] 32 (0, 0)) zk hb); have n1_ := Aside0.mk (below_step zb hb); clear BK20; clear HB; have BK20 := n0_; have HB := n1_; clear n0_ n1_; (try clear hb); (try clear hb2); (try clear hk); (try clear hi); obtain ⟨hcz11_0, hcz11_1, hfz11_0, hfz11_1⟩ := Lv.blks2 BK20.out) | (go_at_call 23; (with_reducible refine (impl_isLsn.calls a1_0 true _ A5.out).mono ?_); rintro e w' ⟨rfl, ⟨nd, rfl⟩⟩) | (go_at_call 42; (with_reducible refine (impl_within.calls a1_1 0 999 true _ A7.out).mono ?_); rintro e w' ⟨rfl, ⟨nd, rfl⟩⟩))
    go_ret
    exact ⟨ze, zb⟩
   replace c8 := Bool.eq_false_iff.mpr c8
   subst c8
   have H1 : (some 3) = some r := by rw [if_neg (show ¬ (false = true) by decide)] at H; exact H
   clear H
   have H := H1
   clear H1
   obtain rfl := Option.some.inj H
   go_enter Try.func30, Try.ntmps30
   go_wp2_with (first | ((with_reducible refine gate_dst (N := 3) rfl ?_); refine box_event ?hg (N := 3) ?hd (cs := #[.int .i64 a1_0, .int .i64 a1_1]) (t := 32) ?hr ?_; (case hd => rfl); (case hg => rfl); (case hr => first | (go_simp; done) | (go_simp; rfl)); intro gb20 hg w12 hbox hb; have n0_ := Aside0.mk (below_step zb hb); have n1_ := Aside0.mk (hbox); have n2_ := Aside0.mk ((by rw [hg]; exact (below_size zb) : w.heap.size ≤ gb20)); have n3_ := n2_; clear HB; have HB := n0_; have BK20 := n1_; have GW20 := n2_; have GE20 := n3_; clear n0_ n1_ n2_ n3_; clear hb hbox hg) | ((with_reducible refine gate_callee (f := 9) rfl ?_); refine goesL_ (some 7) rfl rfl Try.func9 (by kernel_rfl) rfl #[.slice A0 l0.length c0] rfl zm ?_; (with_reducible refine (impl_ChainFault.calls k _ _ l0 t21 _ ?side1 ?side2 A3.out).mono ?_); (case side1 => repeat (first | exact (Kd.C_below HR0.out HB.out) | (with_reducible first | refine Kd.C_alloc ?_ _ | refine Kd.C_drewN ?_ _ | refine Kd.C_drew ?_))); (case side2 => exact HC0.out); rintro e w13 ⟨rfl, hb⟩; refine ⟨_, rfl, ?_⟩; have n0_ := Aside0.mk (blk_below (g := gb20) (o := .cells #[.int .i64 a1_0, .int .i64 a1_1] 32 (0, 0)) zk hb); have n1_ := Aside0.mk (below_step zb hb); clear BK20; clear HB; have BK20 := n0_; have HB := n1_; clear n0_ n1_; (try clear hb); (try clear hb2); (try clear hk); (try clear hi); obtain ⟨hcz14_0, hcz14_1, hfz14_0, hfz14_1⟩ := Lv.blks2 BK20.out) | (go_at_call 23; (with_reducible refine (impl_isLsn.calls a1_0 true _ A5.out).mono ?_); rintro e w' ⟨rfl, ⟨nd, rfl⟩⟩) | (go_at_call 42; (with_reducible refine (impl_within.calls a1_1 0 999 false _ A7.out).mono ?_); rintro e w' ⟨rfl, ⟨nd, rfl⟩⟩))
   go_ret
   exact ⟨ze, zb⟩
  replace c6 := Bool.eq_false_iff.mpr c6
  subst c6
  have H1 : (some 3) = some r := by rw [if_neg (show ¬ (false = true) by decide)] at H; exact H
  clear H
  have H := H1
  clear H1
  obtain rfl := Option.some.inj H
  go_enter Try.func30, Try.ntmps30
  go_wp2_with (first | ((with_reducible refine gate_dst (N := 3) rfl ?_); refine box_event ?hg (N := 3) ?hd (cs := #[.int .i64 a1_0, .int .i64 a1_1]) (t := 32) ?hr ?_; (case hd => rfl); (case hg => rfl); (case hr => first | (go_simp; done) | (go_simp; rfl)); intro gb20 hg w15 hbox hb; have n0_ := Aside0.mk (below_step zb hb); have n1_ := Aside0.mk (hbox); have n2_ := Aside0.mk ((by rw [hg]; exact (below_size zb) : w.heap.size ≤ gb20)); have n3_ := n2_; clear HB; have HB := n0_; have BK20 := n1_; have GW20 := n2_; have GE20 := n3_; clear n0_ n1_ n2_ n3_; clear hb hbox hg) | ((with_reducible refine gate_callee (f := 9) rfl ?_); refine goesL_ (some 7) rfl rfl Try.func9 (by kernel_rfl) rfl #[.slice A0 l0.length c0] rfl zm ?_; (with_reducible refine (impl_ChainFault.calls k _ _ l0 t21 _ ?side1 ?side2 A3.out).mono ?_); (case side1 => repeat (first | exact (Kd.C_below HR0.out HB.out) | (with_reducible first | refine Kd.C_alloc ?_ _ | refine Kd.C_drewN ?_ _ | refine Kd.C_drew ?_))); (case side2 => exact HC0.out); rintro e w16 ⟨rfl, hb⟩; refine ⟨_, rfl, ?_⟩; have n0_ := Aside0.mk (blk_below (g := gb20) (o := .cells #[.int .i64 a1_0, .int .i64 a1_1] 32 (0, 0)) zk hb); have n1_ := Aside0.mk (below_step zb hb); clear BK20; clear HB; have BK20 := n0_; have HB := n1_; clear n0_ n1_; (try clear hb); (try clear hb2); (try clear hk); (try clear hi); obtain ⟨hcz17_0, hcz17_1, hfz17_0, hfz17_1⟩ := Lv.blks2 BK20.out) | (go_at_call 23; (with_reducible refine (impl_isLsn.calls a1_0 false _ A5.out).mono ?_); rintro e w' ⟨rfl, ⟨nd, rfl⟩⟩))
  go_ret
  exact ⟨ze, zb⟩
 rw [if_neg c4] at H
 have c4b0 : (t21 == 0) = false := beq_eq_false_iff_ne.mpr c4
 have c4b1 : (t21 != 0) = true := bne_iff_ne.mpr c4
 obtain rfl := Option.some.inj H
 go_enter Try.func30, Try.ntmps30
 go_wp2_with (first | ((with_reducible refine gate_dst (N := 3) rfl ?_); refine box_event ?hg (N := 3) ?hd (cs := #[.int .i64 a1_0, .int .i64 a1_1]) (t := 32) ?hr ?_; (case hd => rfl); (case hg => rfl); (case hr => first | (go_simp; done) | (go_simp; rfl)); intro gb20 hg w18 hbox hb; have n0_ := Aside0.mk (below_step zb hb); have n1_ := Aside0.mk (hbox); have n2_ := Aside0.mk ((by rw [hg]; exact (below_size zb) : w.heap.size ≤ gb20)); have n3_ := n2_; clear HB; have HB := n0_; have BK20 := n1_; have GW20 := n2_; have GE20 := n3_; clear n0_ n1_ n2_ n3_; clear hb hbox hg) | ((with_reducible refine gate_callee (f := 9) rfl ?_); refine goesL_ (some 7) rfl rfl Try.func9 (by kernel_rfl) rfl #[.slice A0 l0.length c0] rfl zm ?_; (with_reducible refine (impl_ChainFault.calls k _ _ l0 t21 _ ?side1 ?side2 A3.out).mono ?_); (case side1 => repeat (first | exact (Kd.C_below HR0.out HB.out) | (with_reducible first | refine Kd.C_alloc ?_ _ | refine Kd.C_drewN ?_ _ | refine Kd.C_drew ?_))); (case side2 => exact HC0.out); rintro e w19 ⟨rfl, hb⟩; refine ⟨_, rfl, ?_⟩; have n0_ := Aside0.mk (blk_below (g := gb20) (o := .cells #[.int .i64 a1_0, .int .i64 a1_1] 32 (0, 0)) zk hb); have n1_ := Aside0.mk (below_step zb hb); clear BK20; clear HB; have BK20 := n0_; have HB := n1_; clear n0_ n1_; (try clear hb); (try clear hb2); (try clear hk); (try clear hi)))
 go_ret
 exact ⟨ze, zb⟩
-- PROOF --
set_option maxHeartbeats 8000000 in
set_option maxRecDepth 100000 in
theorem slices_IndexFunc_impl_Version.calls (g : Nat) (lb : Array Value) (p : S51 → Bool) (A0 : Option Addr) (c0 : Nat) (l0 : List (S51)) (w : World) (hr0 : Kd.C k51 w A0 l0.length l0)
 (hp : ∀ (W : World) (x : S51), x ∈ l0 → Below w.heap.size w W → Calls Try.prog g (#[.agg #[.int .i64 x.f0, .int .i64 x.f1, .bool x.f2, .int .i64 x.f3]] ++ lb) W fun e w' => e = .returned (.bool (p x)) ∧ Below W.heap.size W w')
 (eg : ∀ args w, (callFunc g args).run Try.prog w = .ok (.enter g args) w) :
 Calls Try.prog 52 #[.slice A0 l0.length c0, .func (.func g) #[] lb] w fun e w' => e = .returned (.int .i64 (Go.Proofs.Ytkaammmkejiafaa.Lb.idx p l0)) ∧ Below w.heap.size w w' := by
 have hu51 := Try.underlying51
 have hn := hr0.2.1
 have HR0 := Aside0.mk hr0
 clear hr0
 go_enter Try.func52, Try.ntmps52
 go_wp2
 go_loopg [5, 8] (l0.length + 1) (fun gg _ s8 wr => ∃ x : Int, 0 ≤ x ∧ x ≤ (l0.length : Int) ∧ Aside0 (l0.length + 1 - x.toNat ≤ gg) ∧ s8 = .int .i64 x ∧ Aside0 (Below w.heap.size w wr) ∧ Aside0 (∀ j : Nat, j < x.toNat → p (l0.getD j z51) = false))
 case atStart => exact ⟨0, by omega, by omega, ⟨by simp⟩, rfl, ⟨Below.refl _ _⟩, ⟨fun j hj => by simp at hj⟩⟩
 case round =>
  obtain ⟨x, hx0, hx1, HG, rfl, HB, HA⟩ := hrel
  by_cases c3 : x < (l0.length : Int)
  ·have c3b0 : decide (x < (l0.length : Int)) = true := decide_eq_true c3
   have c4b0 : decide (0 ≤ x) = true := decide_eq_true hx0
   obtain ⟨ad, e1, q0, q1, q2, q3⟩ := at_T51 HR0.out x hx0 c3
   cases e1
   replace q0 := zx HB q0
   replace q1 := zx HB q1
   replace q2 := zx HB q2
   replace q3 := zx HB q3
   have hx : x.toNat < l0.length := by omega
   have hrd : rd_T51 l0 x = l0.getD x.toNat z51 := rfl
   have hcall := hp wr (rd_T51 l0 x) (by rw [hrd, List.getD_eq_getElem?_getD, List.getElem?_eq_getElem hx]; exact List.getElem_mem hx) HB.out
   clear hp hrd
   cases hq : p (rd_T51 l0 x) with
   | true =>
    rw [hq] at hcall
    have HQ := Aside0.mk hq
    clear hq
    go_wp2_with (go_at_fn g; refine hcall.mono ?_; rintro e w' ⟨rfl, hb'⟩)
    go_ret
    refine ⟨?_, HB.out.trans (hb'.mono HB.out.size)⟩
    unfold Go.Proofs.Ytkaammmkejiafaa.Lb.idx
    rw [Go.Proofs.Ytkaammmkejiafaa.Lb.idx_hit p z51 l0 x.toNat 0 hx HA.out HQ.out]
    rw [show (0 : Int) + (x.toNat : Int) = x by omega]
    rfl
   | false =>
    rw [hq] at hcall
    have HQ := Aside0.mk hq
    clear hq
    go_wp2_with (go_at_fn g; refine hcall.mono ?_; rintro e w' ⟨rfl, hb'⟩)
    go_roundg (l0.length + 1 - (x + 1).toNat)
    case measure => have := HG.out; omega
    case rel => exact ⟨x + 1, by omega, by omega, ⟨by omega⟩, by first | rfl | go_num, ⟨HB.out.trans (hb'.mono HB.out.size)⟩, ⟨fun j hj => by
     by_cases e : j = x.toNat
     ·subst e; exact HQ.out
     exact HA.out j (by omega)⟩⟩
  have hxx : x = (l0.length : Int) := by omega
  have c3b0 : decide (x < (l0.length : Int)) = false := decide_eq_false c3
  have hm : Go.Proofs.Ytkaammmkejiafaa.Lb.idx p l0 = -1 := by
   unfold Go.Proofs.Ytkaammmkejiafaa.Lb.idx
   exact Go.Proofs.Ytkaammmkejiafaa.Lb.idx_miss p z51 l0 0 (fun j hj => HA.out j (by omega))
  have HM := Aside0.mk hm
  clear hm
  have HX := Aside0.mk hxx
  clear hxx
  go_wp2
  go_ret
  exact ⟨by rw [HM.out]; rfl, HB.out⟩
-- PROOF --
set_option maxHeartbeats 1000000 in
theorem impl_seen.p_calls (x : S51) (at_ own : Int) (B : Nat) (W : World) (hB : B < W.heap.size) (q0 : W.cell? ⟨B, 0, none⟩ = some (.int .i64 at_)) (q1 : W.cell? ⟨B, 1, none⟩ = some (.int .i64 own)) :
 Calls Try.prog 53 #[.agg #[.int .i64 x.f0, .int .i64 x.f1, .bool x.f2, .int .i64 x.f3], .pointer (some ⟨B, 0, none⟩)] W fun e w' => e = .returned (.bool (impl_seen.p at_ own x)) ∧ Below W.heap.size W w' := by
 have hu51 := Try.underlying51
 have hu32 := Try.underlying32
 rcases x with ⟨a, b, c, d⟩
 simp only [impl_seen.p]
 have HB := Aside0.mk (Below.refl W.heap.size W)
 have hne : B ≠ W.heap.size := by omega
 by_cases e1 : b = 0
 ·have t1 : (b == 0) = true := by simpa using e1
  have t1' : decide (0 < b) = false := by simp; omega
  have t1'' : decide (b > 0) = false := by simp; omega
  by_cases e2 : a = own
  ·have t2 : (a == own) = true := by simpa using e2
   rw [t1, t2]
   clear e1 e2
   go_enter Try.func53, Try.ntmps53; go_wp2; go_ret; exact ⟨rfl, HB.out.alloc (Nat.le_refl _) _⟩
  have t2 : (a == own) = false := by simpa using e2
  rw [t1, t2, t1'']
  clear e1 e2
  go_enter Try.func53, Try.ntmps53; go_wp2; go_ret; exact ⟨rfl, HB.out.alloc (Nat.le_refl _) _⟩
 have t1 : (b == 0) = false := by simpa using e1
 rw [t1]
 by_cases e3 : 0 < b
 ·have t3 : decide (0 < b) = true := by simpa using e3
  have t3' : decide (b > 0) = true := by simpa using e3
  by_cases e4 : b ≤ at_
  ·have t4 : decide (b ≤ at_) = true := by simpa using e4
   rw [t3', t4]
   clear e1 e3 e4
   go_enter Try.func53, Try.ntmps53; go_wp2; go_ret; exact ⟨rfl, HB.out.alloc (Nat.le_refl _) _⟩
  have t4 : decide (b ≤ at_) = false := by simpa using e4
  rw [t3', t4]
  clear e1 e3 e4
  go_enter Try.func53, Try.ntmps53; go_wp2; go_ret; exact ⟨rfl, HB.out.alloc (Nat.le_refl _) _⟩
 have t3 : decide (0 < b) = false := by simpa using e3
 have t3' : decide (b > 0) = false := by simpa using e3
 rw [t3']
 clear e1 e3
 go_enter Try.func53, Try.ntmps53; go_wp2; go_ret; exact ⟨rfl, HB.out.alloc (Nat.le_refl _) _⟩
set_option maxHeartbeats 8000000 in
set_option maxRecDepth 100000 in
theorem impl_seen.calls (A0 : Option Addr) (c0 : Nat) (l0 : List S51) (a1_0 a1_1 : Int) (r : Int) (w : World) (hr0 : Kd.C k51 w A0 l0.length l0) (hc0 : l0.length ≤ c0) (h : impl_seen.f l0 a1_0 a1_1 = some r) :
 Calls Try.prog 48 #[.slice A0 l0.length c0, .agg #[.int .i64 a1_0, .int .i64 a1_1]] w fun e w' => e = .returned (.int .i64 r) ∧ Below w.heap.size w w' := by
 have hu32 := Try.underlying32
 obtain rfl := Option.some.inj h
 clear h
 have hcon := fun (W : World) (hB : w.heap.size < W.heap.size) (q0 : W.cell? ⟨w.heap.size, 0, none⟩ = some (.int .i64 a1_0)) (q1 : W.cell? ⟨w.heap.size, 1, none⟩ = some (.int .i64 a1_1)) (hr : Kd.C k51 W A0 l0.length l0) =>
  slices_IndexFunc_impl_Version.calls 53 #[.pointer (some ⟨w.heap.size, 0, none⟩)] (impl_seen.p a1_0 a1_1) A0 c0 l0 W hr (fun W2 x _ hb => impl_seen.p_calls x a1_0 a1_1 w.heap.size W2 (Nat.lt_of_lt_of_le hB hb.size) ((hb.cell (p := ⟨w.heap.size, 0, none⟩) hB).trans q0) ((hb.cell (p := ⟨w.heap.size, 1, none⟩) hB).trans q1)) (enters_of Try.func53 (by kernel_rfl) rfl)
 have HR0 := Aside0.mk hr0
 clear hr0
 generalize Go.Proofs.Ytkaammmkejiafaa.Lb.idx (impl_seen.p a1_0 a1_1) l0 = r at hcon ⊢
 have HC := Aside0.mk hcon
 clear hcon
 go_enter Try.func48, Try.ntmps48
 go_wp2_with (go_at_call 52; refine (HC.out _ (by simp) (by simp) (by simp) (Kd.C_alloc HR0.out _)).mono ?_; rintro e w' ⟨rfl, hb'⟩)
 go_ret
 exact ⟨rfl, ((Below.refl _ w).alloc (Nat.le_refl _) _).trans (hb'.mono (by simp))⟩
set_option maxHeartbeats 8000000 in
set_option maxRecDepth 100000 in
theorem impl_seenValue.calls (A0 : Option Addr) (c0 : Nat) (l0 : List (S51)) (a1_0 : Int) (a1_1 : Int) (r1 : Int) (r2 : Int) (w : World) (hr0 : Kd.C k51 w A0 l0.length l0) (hc0 : l0.length ≤ c0) (h : impl_seenValue.f l0 a1_0 a1_1 = some (r1, r2)) :
 Calls Try.prog 31 #[.slice A0 l0.length c0, .agg #[.int .i64 a1_0, .int .i64 a1_1]] w fun e w' => e = .returned (.agg #[.int .i64 r1, .int .i64 r2]) ∧ Below w.heap.size w w' := by
 have hu32 := Try.underlying32
 have hu34 := Try.underlying34
 have HR0 := Aside0.mk hr0
 have HC0 := Aside0.mk hc0
 clear hr0 hc0
 have HB := Aside0.mk (Below.refl w.heap.size w)
 have H : ((impl_seen.f l0 a1_0 a1_1).bind fun t33 => (if t33 < 0 then (some (4, 0)) else (if 0 ≤ t33 then (if t33 < (l0.length : Int) then (if (rd_T51 l0 t33).f2 = true then (some (4, 0)) else (some (0, (rd_T51 l0 t33).f3))) else (none)) else (none)))) = some (r1, r2) := h
 clear h
 replace H := Option.bind_eq_some_iff.mp H
 obtain ⟨t33, A30, H⟩ := H
 replace H : (if t33 < 0 then (some (4, 0)) else (if 0 ≤ t33 then (if t33 < (l0.length : Int) then (if (rd_T51 l0 t33).f2 = true then (some (4, 0)) else (some (0, (rd_T51 l0 t33).f3))) else (none)) else (none))) = some (r1, r2) := H
 have A3 := Aside0.mk A30
 clear A30
 by_cases c4 : t33 < 0
 ·rw [if_pos c4] at H
  have c4b0 : decide (t33 < 0) = true := decide_eq_true c4
  clear c4
  simp only [Option.some.injEq, Prod.mk.injEq] at H
  obtain ⟨rfl, rfl⟩ := H
  go_enter Try.func31, Try.ntmps31
  go_wp2_with (first | ((with_reducible refine gate_dst (N := 3) rfl ?_); refine box_event ?hg (N := 3) ?hd (cs := #[.int .i64 a1_0, .int .i64 a1_1]) (t := 32) ?hr ?_; (case hd => rfl); (case hg => rfl); (case hr => first | (go_simp; done) | (go_simp; rfl)); intro gb27 hg w5 hbox hb; have n0_ := Aside0.mk (below_step zb hb); have n1_ := Aside0.mk (hbox); have n2_ := Aside0.mk ((by rw [hg]; exact (below_size zb) : w.heap.size ≤ gb27)); have n3_ := n2_; clear HB; have HB := n0_; have BK27 := n1_; have GW27 := n2_; have GE27 := n3_; clear n0_ n1_ n2_ n3_; clear hb hbox hg) | ((with_reducible refine gate_dst (N := 4) rfl ?_); refine box_event ?hg (N := 4) ?hd (cs := #[.int .i64 0, .int .i64 0]) (t := 34) ?hr ?_; (case hd => rfl); (case hg => rfl); (case hr => first | (go_simp; done) | (go_simp; rfl)); intro gb28 hg w6 hbox hb; have n0_ := Aside0.mk (blk_below (g := gb27) (o := .cells #[.int .i64 a1_0, .int .i64 a1_1] 32 (0, 0)) zk hb); have n1_ := Aside0.mk (below_step zb hb); have n2_ := Aside0.mk (hbox); have n3_ := Aside0.mk ((by rw [hg]; exact (below_size zb) : w.heap.size ≤ gb28)); have n4_ := n3_; have n5_ := Aside0.mk ((by rw [hg]; exact Nat.ne_of_lt (blk_lt (g := gb27) (o := .cells #[.int .i64 a1_0, .int .i64 a1_1] 32 (0, 0)) zk) : gb27 ≠ gb28)); have n6_ := Aside0.mk ((by rw [hg]; exact Nat.ne_of_gt (blk_lt (g := gb27) (o := .cells #[.int .i64 a1_0, .int .i64 a1_1] 32 (0, 0)) zk) : gb28 ≠ gb27)); clear BK27; clear HB; have BK27 := n0_; have HB := n1_; have BK28 := n2_; have GW28 := n3_; have GE28 := n4_; have NB274_275 := n5_; have NB275_274 := n6_; clear n0_ n1_ n2_ n3_ n4_ n5_ n6_; clear hb hbox hg; have hnb7 := NB274_275.out; have hnc7 := NB275_274.out; obtain ⟨hcz8_0, hcz8_1, hfz8_0, hfz8_1⟩ := Lv.blks2 BK27.out) | ((with_reducible refine gate_callee (f := 48) rfl ?_); refine goesL_ (some 8) rfl rfl Try.func48 (by kernel_rfl) rfl #[.slice A0 l0.length c0, .agg #[.int .i64 a1_0, .int .i64 a1_1]] rfl zm ?_; (with_reducible refine (impl_seen.calls _ _ l0 a1_0 a1_1 t33 _ ?side1 ?side2 A3.out).mono ?_); (case side1 => repeat (first | exact (Kd.C_below HR0.out HB.out) | (with_reducible first | refine Kd.C_alloc ?_ _ | refine Kd.C_drewN ?_ _ | refine Kd.C_drew ?_))); (case side2 => exact HC0.out); rintro e w9 ⟨rfl, hb⟩; refine ⟨_, rfl, ?_⟩; have n0_ := Aside0.mk (blk_below (g := gb27) (o := .cells #[.int .i64 a1_0, .int .i64 a1_1] 32 (0, 0)) zk hb); have n1_ := Aside0.mk (blk_below (g := gb28) (o := .cells #[.int .i64 0, .int .i64 0] 34 (0, 0)) zk hb); have n2_ := Aside0.mk (below_step zb hb); clear BK27; clear BK28; clear HB; have BK27 := n0_; have BK28 := n1_; have HB := n2_; clear n0_ n1_ n2_; (try clear hb); (try clear hb2); (try clear hk); (try clear hi); obtain ⟨hcz10_0, hcz10_1, hfz10_0, hfz10_1⟩ := Lv.blks2 BK28.out))
  refine bodyPost_ret (results_cell_row rfl _ _ gb28 34 #[.int .i64 4, .int .i64 0] (0, 0) _ rfl (by (with_reducible repeat (first | refine blk_drewN ?_ _ | refine blk_drew ?_ | refine blk_alloc ?_ _)); refine blk_put (cs := #[.int .i64 4, .int .i64 0]) ?_ 1 _ rfl; (with_reducible repeat (first | refine blk_drewN ?_ _ | refine blk_drew ?_ | refine blk_alloc ?_ _)); refine blk_put (cs := #[.int .i64 0, .int .i64 0]) ?_ 0 _ rfl; (with_reducible repeat (first | refine blk_drewN ?_ _ | refine blk_drew ?_ | refine blk_alloc ?_ _)); exact BK28.out) Try.underlying34 rfl (by kernel_rfl)) rfl ?_
  exact ⟨ze, zb⟩
 rw [if_neg c4] at H
 have c4b0 : decide (t33 < 0) = false := decide_eq_false c4
 clear c4
 by_cases c11 : 0 ≤ t33
 ·rw [if_pos c11] at H
  have c11b0 : decide (0 ≤ t33) = true := decide_eq_true c11
  clear c11
  by_cases c12 : t33 < (l0.length : Int)
  ·rw [if_pos c12] at H
   have c12b0 : decide (t33 < (l0.length : Int)) = true := decide_eq_true c12
   clear c12
   obtain ⟨bq13, hbq13⟩ : ∃ b_ : Bool, b_ = ((rd_T51 l0 t33).f2) := ⟨_, rfl⟩
   replace H : (if bq13 = true then (some (4, 0)) else (some (0, (rd_T51 l0 t33).f3))) = some (r1, r2) := by rw [← hbq13] at H; exact H
   have Nbq13 := Aside0.mk hbq13
   clear hbq13
   by_cases c14 : bq13 = true
   ·subst c14
    have H1 : (some (4, 0)) = some (r1, r2) := by rw [if_pos rfl] at H; exact H
    clear H
    have H := H1
    clear H1
    simp only [Option.some.injEq, Prod.mk.injEq] at H
    obtain ⟨rfl, rfl⟩ := H
    go_enter Try.func31, Try.ntmps31
    go_wp2_with (first | ((with_reducible refine gate_dst (N := 3) rfl ?_); refine box_event ?hg (N := 3) ?hd (cs := #[.int .i64 a1_0, .int .i64 a1_1]) (t := 32) ?hr ?_; (case hd => rfl); (case hg => rfl); (case hr => first | (go_simp; done) | (go_simp; rfl)); intro gb27 hg w15 hbox hb; have n0_ := Aside0.mk (below_step zb hb); have n1_ := Aside0.mk (hbox); have n2_ := Aside0.mk ((by rw [hg]; exact (below_size zb) : w.heap.size ≤ gb27)); have n3_ := n2_; clear HB; have HB := n0_; have BK27 := n1_; have GW27 := n2_; have GE27 := n3_; clear n0_ n1_ n2_ n3_; clear hb hbox hg) | ((with_reducible refine gate_dst (N := 4) rfl ?_); refine box_event ?hg (N := 4) ?hd (cs := #[.int .i64 0, .int .i64 0]) (t := 34) ?hr ?_; (case hd => rfl); (case hg => rfl); (case hr => first | (go_simp; done) | (go_simp; rfl)); intro gb28 hg w16 hbox hb; have n0_ := Aside0.mk (blk_below (g := gb27) (o := .cells #[.int .i64 a1_0, .int .i64 a1_1] 32 (0, 0)) zk hb); have n1_ := Aside0.mk (below_step zb hb); have n2_ := Aside0.mk (hbox); have n3_ := Aside0.mk ((by rw [hg]; exact (below_size zb) : w.heap.size ≤ gb28)); have n4_ := n3_; have n5_ := Aside0.mk ((by rw [hg]; exact Nat.ne_of_lt (blk_lt (g := gb27) (o := .cells #[.int .i64 a1_0, .int .i64 a1_1] 32 (0, 0)) zk) : gb27 ≠ gb28)); have n6_ := Aside0.mk ((by rw [hg]; exact Nat.ne_of_gt (blk_lt (g := gb27) (o := .cells #[.int .i64 a1_0, .int .i64 a1_1] 32 (0, 0)) zk) : gb28 ≠ gb27)); clear BK27; clear HB; have BK27 := n0_; have HB := n1_; have BK28 := n2_; have GW28 := n3_; have GE28 := n4_; have NB274_275 := n5_; have NB275_274 := n6_; clear n0_ n1_ n2_ n3_ n4_ n5_ n6_; clear hb hbox hg; have hnb17 := NB274_275.out; have hnc17 := NB275_274.out; obtain ⟨hcz18_0, hcz18_1, hfz18_0, hfz18_1⟩ := Lv.blks2 BK27.out) | ((with_reducible refine gate_callee (f := 48) rfl ?_); refine goesL_ (some 8) rfl rfl Try.func48 (by kernel_rfl) rfl #[.slice A0 l0.length c0, .agg #[.int .i64 a1_0, .int .i64 a1_1]] rfl zm ?_; (with_reducible refine (impl_seen.calls _ _ l0 a1_0 a1_1 t33 _ ?side1 ?side2 A3.out).mono ?_); (case side1 => repeat (first | exact (Kd.C_below HR0.out HB.out) | (with_reducible first | refine Kd.C_alloc ?_ _ | refine Kd.C_drewN ?_ _ | refine Kd.C_drew ?_))); (case side2 => exact HC0.out); rintro e w19 ⟨rfl, hb⟩; refine ⟨_, rfl, ?_⟩; have n0_ := Aside0.mk (blk_below (g := gb27) (o := .cells #[.int .i64 a1_0, .int .i64 a1_1] 32 (0, 0)) zk hb); have n1_ := Aside0.mk (blk_below (g := gb28) (o := .cells #[.int .i64 0, .int .i64 0] 34 (0, 0)) zk hb); have n2_ := Aside0.mk (below_step zb hb); clear BK27; clear BK28; clear HB; have BK27 := n0_; have BK28 := n1_; have HB := n2_; clear n0_ n1_ n2_; (try clear hb); (try clear hb2); (try clear hk); (try clear hi); have p277 : 0 ≤ (t33 : Int) := of_decide_eq_true za; have q29 : t33 < (l0.length : Int) := of_decide_eq_true za; obtain ⟨ad29, e277, hx29_0, hx29_1, hx29_2, hx29_3⟩ := at_T51 HR0.out t33 p277 q29; (try rw [← Nbq13.out] at hx29_2); cases e277; replace hx29_0 := (HB.out.cell (World.block_lt_of_cell? w _ hx29_0)).trans hx29_0; replace hx29_1 := (HB.out.cell (World.block_lt_of_cell? w _ hx29_1)).trans hx29_1; replace hx29_2 := (HB.out.cell (World.block_lt_of_cell? w _ hx29_2)).trans hx29_2; replace hx29_3 := (HB.out.cell (World.block_lt_of_cell? w _ hx29_3)).trans hx29_3; replace p277 := eq_true p277; replace q29 := eq_true q29; obtain ⟨hcz20_0, hcz20_1, hfz20_0, hfz20_1⟩ := Lv.blks2 BK28.out))
    refine bodyPost_ret (results_cell_row rfl _ _ gb28 34 #[.int .i64 4, .int .i64 0] (0, 0) _ rfl (by (with_reducible repeat (first | refine blk_drewN ?_ _ | refine blk_drew ?_ | refine blk_alloc ?_ _)); refine blk_put (cs := #[.int .i64 4, .int .i64 0]) ?_ 1 _ rfl; (with_reducible repeat (first | refine blk_drewN ?_ _ | refine blk_drew ?_ | refine blk_alloc ?_ _)); refine blk_put (cs := #[.int .i64 0, .int .i64 0]) ?_ 0 _ rfl; (with_reducible repeat (first | refine blk_drewN ?_ _ | refine blk_drew ?_ | refine blk_alloc ?_ _)); exact BK28.out) Try.underlying34 rfl (by kernel_rfl)) rfl ?_
    exact ⟨ze, zb⟩
   replace c14 := Bool.eq_false_iff.mpr c14
   subst c14
   have H1 : (some (0, (rd_T51 l0 t33).f3)) = some (r1, r2) := by rw [if_neg (show ¬ (false = true) by decide)] at H; exact H
   clear H
   have H := H1
   clear H1
   simp only [Option.some.injEq, Prod.mk.injEq] at H
   obtain ⟨rfl, rfl⟩ := H
   go_enter Try.func31, Try.ntmps31
   go_wp2_with (first | ((with_reducible refine gate_dst (N := 3) rfl ?_); refine box_event ?hg (N := 3) ?hd (cs := #[.int .i64 a1_0, .int .i64 a1_1]) (t := 32) ?hr ?_; (case hd => rfl); (case hg => rfl); (case hr => first | (go_simp; done) | (go_simp; rfl)); intro gb27 hg w21 hbox hb; have n0_ := Aside0.mk (below_step zb hb); have n1_ := Aside0.mk (hbox); have n2_ := Aside0.mk ((by rw [hg]; exact (below_size zb) : w.heap.size ≤ gb27)); have n3_ := n2_; clear HB; have HB := n0_; have BK27 := n1_; have GW27 := n2_; have GE27 := n3_; clear n0_ n1_ n2_ n3_; clear hb hbox hg) | ((with_reducible refine gate_dst (N := 4) rfl ?_); refine box_event ?hg (N := 4) ?hd (cs := #[.int .i64 0, .int .i64 0]) (t := 34) ?hr ?_; (case hd => rfl); (case hg => rfl); (case hr => first | (go_simp; done) | (go_simp; rfl)); intro gb28 hg w22 hbox hb; have n0_ := Aside0.mk (blk_below (g := gb27) (o := .cells #[.int .i64 a1_0, .int .i64 a1_1] 32 (0, 0)) zk hb); have n1_ := Aside0.mk (below_step zb hb); have n2_ := Aside0.mk (hbox); have n3_ := Aside0.mk ((by rw [hg]; exact (below_size zb) : w.heap.size ≤ gb28)); have n4_ := n3_; have n5_ := Aside0.mk ((by rw [hg]; exact Nat.ne_of_lt (blk_lt (g := gb27) (o := .cells #[.int .i64 a1_0, .int .i64 a1_1] 32 (0, 0)) zk) : gb27 ≠ gb28)); have n6_ := Aside0.mk ((by rw [hg]; exact Nat.ne_of_gt (blk_lt (g := gb27) (o := .cells #[.int .i64 a1_0, .int .i64 a1_1] 32 (0, 0)) zk) : gb28 ≠ gb27)); clear BK27; clear HB; have BK27 := n0_; have HB := n1_; have BK28 := n2_; have GW28 := n3_; have GE28 := n4_; have NB274_275 := n5_; have NB275_274 := n6_; clear n0_ n1_ n2_ n3_ n4_ n5_ n6_; clear hb hbox hg; have hnb23 := NB274_275.out; have hnc23 := NB275_274.out; obtain ⟨hcz24_0, hcz24_1, hfz24_0, hfz24_1⟩ := Lv.blks2 BK27.out) | ((with_reducible refine gate_callee (f := 48) rfl ?_); refine goesL_ (some 8) rfl rfl Try.func48 (by kernel_rfl) rfl #[.slice A0 l0.length c0, .agg #[.int .i64 a1_0, .int .i64 a1_1]] rfl zm ?_; (with_reducible refine (impl_seen.calls _ _ l0 a1_0 a1_1 t33 _ ?side1 ?side2 A3.out).mono ?_); (case side1 => repeat (first | exact (Kd.C_below HR0.out HB.out) | (with_reducible first | refine Kd.C_alloc ?_ _ | refine Kd.C_drewN ?_ _ | refine Kd.C_drew ?_))); (case side2 => exact HC0.out); rintro e w25 ⟨rfl, hb⟩; refine ⟨_, rfl, ?_⟩; have n0_ := Aside0.mk (blk_below (g := gb27) (o := .cells #[.int .i64 a1_0, .int .i64 a1_1] 32 (0, 0)) zk hb); have n1_ := Aside0.mk (blk_below (g := gb28) (o := .cells #[.int .i64 0, .int .i64 0] 34 (0, 0)) zk hb); have n2_ := Aside0.mk (below_step zb hb); clear BK27; clear BK28; clear HB; have BK27 := n0_; have BK28 := n1_; have HB := n2_; clear n0_ n1_ n2_; (try clear hb); (try clear hb2); (try clear hk); (try clear hi); have p277 : 0 ≤ (t33 : Int) := of_decide_eq_true za; have q29 : t33 < (l0.length : Int) := of_decide_eq_true za; obtain ⟨ad29, e277, hx29_0, hx29_1, hx29_2, hx29_3⟩ := at_T51 HR0.out t33 p277 q29; (try rw [← Nbq13.out] at hx29_2); cases e277; replace hx29_0 := (HB.out.cell (World.block_lt_of_cell? w _ hx29_0)).trans hx29_0; replace hx29_1 := (HB.out.cell (World.block_lt_of_cell? w _ hx29_1)).trans hx29_1; replace hx29_2 := (HB.out.cell (World.block_lt_of_cell? w _ hx29_2)).trans hx29_2; replace hx29_3 := (HB.out.cell (World.block_lt_of_cell? w _ hx29_3)).trans hx29_3; replace p277 := eq_true p277; replace q29 := eq_true q29; have p278 : 0 ≤ (t33 : Int) := of_decide_eq_true za; have q35 : t33 < (l0.length : Int) := of_decide_eq_true za; obtain ⟨ad35, e278, hx35_0, hx35_1, hx35_2, hx35_3⟩ := at_T51 HR0.out t33 p278 q35; (try rw [← Nbq13.out] at hx35_2); obtain rfl : ad29 = ad35 := (by injection e278); replace hx35_0 := (HB.out.cell (World.block_lt_of_cell? w _ hx35_0)).trans hx35_0; replace hx35_1 := (HB.out.cell (World.block_lt_of_cell? w _ hx35_1)).trans hx35_1; replace hx35_2 := (HB.out.cell (World.block_lt_of_cell? w _ hx35_2)).trans hx35_2; replace hx35_3 := (HB.out.cell (World.block_lt_of_cell? w _ hx35_3)).trans hx35_3; replace p278 := eq_true p278; replace q35 := eq_true q35; obtain ⟨hcz26_0, hcz26_1, hfz26_0, hfz26_1⟩ := Lv.blks2 BK28.out))
   refine bodyPost_ret (results_cell_row rfl _ _ gb28 34 #[.int .i64 0, .int .i64 ((rd_T51 l0 t33).f3)] (0, 0) _ rfl (by (with_reducible repeat (first | refine blk_drewN ?_ _ | refine blk_drew ?_ | refine blk_alloc ?_ _)); refine blk_put (cs := #[.int .i64 0, .int .i64 0]) ?_ 1 _ rfl; (with_reducible repeat (first | refine blk_drewN ?_ _ | refine blk_drew ?_ | refine blk_alloc ?_ _)); refine blk_put (cs := #[.int .i64 0, .int .i64 0]) ?_ 0 _ rfl; (with_reducible repeat (first | refine blk_drewN ?_ _ | refine blk_drew ?_ | refine blk_alloc ?_ _)); exact BK28.out) Try.underlying34 rfl (by kernel_rfl)) rfl ?_
   exact ⟨ze, zb⟩
  rw [if_neg c12] at H
  exact absurd H (by simp)
 rw [if_neg c11] at H
 exact absurd H (by simp)
set_option maxHeartbeats 8000000 in
set_option maxRecDepth 100000 in
theorem impl_SeenIn.calls (k : Nat) (A0 : Option Addr) (c0 : Nat) (l0 : List (S51)) (a1_0 : Int) (a1_1 : Int) (r1 : Int) (r2 : Int) (w : World) (hr0 : Kd.C k51 w A0 l0.length l0) (hc0 : l0.length ≤ c0) (h : impl_SeenIn.f k l0 a1_0 a1_1 = some (r1, r2)) :
 Calls Try.prog 10 #[.slice A0 l0.length c0, .agg #[.int .i64 a1_0, .int .i64 a1_1]] w fun e w' => e = .returned (.agg #[.int .i64 r1, .int .i64 r2]) ∧ Below w.heap.size w w' := by
 have hu32 := Try.underlying32
 have hu34 := Try.underlying34
 have HR0 := Aside0.mk hr0
 have HC0 := Aside0.mk hc0
 clear hr0 hc0
 have HB := Aside0.mk (Below.refl w.heap.size w)
 have H : ((impl_viewCode.f k l0 a1_0 a1_1).bind fun t22 => (if t22 = 0 then ((impl_seenValue.f l0 a1_0 a1_1).bind fun bt23 => (some (bt23.1, bt23.2))) else (some (t22, 0)))) = some (r1, r2) := h
 clear h
 replace H := Option.bind_eq_some_iff.mp H
 obtain ⟨t22, A30, H⟩ := H
 replace H : (if t22 = 0 then ((impl_seenValue.f l0 a1_0 a1_1).bind fun bt23 => (some (bt23.1, bt23.2))) else (some (t22, 0))) = some (r1, r2) := H
 have A3 := Aside0.mk A30
 clear A30
 by_cases c4 : t22 = 0
 ·rw [if_pos c4] at H
  have c4b0 : (t22 == 0) = true := beq_iff_eq.mpr c4
  have c4b1 : (t22 != 0) = false := bne_eq_false_iff_eq.mpr c4
  clear c4
  replace H := Option.bind_eq_some_iff.mp H
  obtain ⟨⟨t23, t24⟩, A50, H⟩ := H
  replace H : (some (t23, t24)) = some (r1, r2) := H
  have A5 := Aside0.mk A50
  clear A50
  simp only [Option.some.injEq, Prod.mk.injEq] at H
  obtain ⟨rfl, rfl⟩ := H
  go_enter Try.func10, Try.ntmps10
  go_wp2_with (first | ((with_reducible refine gate_dst (N := 3) rfl ?_); refine box_event ?hg (N := 3) ?hd (cs := #[.int .i64 a1_0, .int .i64 a1_1]) (t := 32) ?hr ?_; (case hd => rfl); (case hg => rfl); (case hr => first | (go_simp; done) | (go_simp; rfl)); intro gb20 hg w6 hbox hb; have n0_ := Aside0.mk (below_step zb hb); have n1_ := Aside0.mk (hbox); have n2_ := Aside0.mk ((by rw [hg]; exact (below_size zb) : w.heap.size ≤ gb20)); have n3_ := n2_; clear HB; have HB := n0_; have BK20 := n1_; have GW20 := n2_; have GE20 := n3_; clear n0_ n1_ n2_ n3_; clear hb hbox hg) | ((with_reducible refine gate_dst (N := 4) rfl ?_); refine box_event ?hg (N := 4) ?hd (cs := #[.int .i64 0, .int .i64 0]) (t := 34) ?hr ?_; (case hd => rfl); (case hg => rfl); (case hr => first | (go_simp; done) | (go_simp; rfl)); intro gb21 hg w7 hbox hb; have n0_ := Aside0.mk (blk_below (g := gb20) (o := .cells #[.int .i64 a1_0, .int .i64 a1_1] 32 (0, 0)) zk hb); have n1_ := Aside0.mk (below_step zb hb); have n2_ := Aside0.mk (hbox); have n3_ := Aside0.mk ((by rw [hg]; exact (below_size zb) : w.heap.size ≤ gb21)); have n4_ := n3_; have n5_ := Aside0.mk ((by rw [hg]; exact Nat.ne_of_lt (blk_lt (g := gb20) (o := .cells #[.int .i64 a1_0, .int .i64 a1_1] 32 (0, 0)) zk) : gb20 ≠ gb21)); have n6_ := Aside0.mk ((by rw [hg]; exact Nat.ne_of_gt (blk_lt (g := gb20) (o := .cells #[.int .i64 a1_0, .int .i64 a1_1] 32 (0, 0)) zk) : gb21 ≠ gb20)); clear BK20; clear HB; have BK20 := n0_; have HB := n1_; have BK21 := n2_; have GW21 := n3_; have GE21 := n4_; have NB279_280 := n5_; have NB280_279 := n6_; clear n0_ n1_ n2_ n3_ n4_ n5_ n6_; clear hb hbox hg; have hnb8 := NB279_280.out; have hnc8 := NB280_279.out; obtain ⟨hcz9_0, hcz9_1, hfz9_0, hfz9_1⟩ := Lv.blks2 BK20.out) | ((with_reducible refine gate_callee (f := 30) rfl ?_); refine goesL_ (some 8) rfl rfl Try.func30 (by kernel_rfl) rfl #[.slice A0 l0.length c0, .agg #[.int .i64 a1_0, .int .i64 a1_1]] rfl zm ?_; (with_reducible refine (impl_viewCode.calls k _ _ l0 a1_0 a1_1 t22 _ ?side1 ?side2 A3.out).mono ?_); (case side1 => repeat (first | exact (Kd.C_below HR0.out HB.out) | (with_reducible first | refine Kd.C_alloc ?_ _ | refine Kd.C_drewN ?_ _ | refine Kd.C_drew ?_))); (case side2 => exact HC0.out); rintro e w10 ⟨rfl, hb⟩; refine ⟨_, rfl, ?_⟩; have n0_ := Aside0.mk (blk_below (g := gb20) (o := .cells #[.int .i64 a1_0, .int .i64 a1_1] 32 (0, 0)) zk hb); have n1_ := Aside0.mk (blk_below (g := gb21) (o := .cells #[.int .i64 0, .int .i64 0] 34 (0, 0)) zk hb); have n2_ := Aside0.mk (below_step zb hb); clear BK20; clear BK21; clear HB; have BK20 := n0_; have BK21 := n1_; have HB := n2_; clear n0_ n1_ n2_; (try clear hb); (try clear hb2); (try clear hk); (try clear hi); obtain ⟨hcz11_0, hcz11_1, hfz11_0, hfz11_1⟩ := Lv.blks2 BK20.out) | ((with_reducible refine gate_callee (f := 31) rfl ?_); refine goesL_ (some 15) rfl rfl Try.func31 (by kernel_rfl) rfl #[.slice A0 l0.length c0, .agg #[.int .i64 a1_0, .int .i64 a1_1]] rfl zm ?_; (with_reducible refine (impl_seenValue.calls _ _ l0 a1_0 a1_1 t23 t24 _ ?side1 ?side2 A5.out).mono ?_); (case side1 => repeat (first | exact (Kd.C_below HR0.out HB.out) | (with_reducible first | refine Kd.C_alloc ?_ _ | refine Kd.C_drewN ?_ _ | refine Kd.C_drew ?_))); (case side2 => exact HC0.out); rintro e w12 ⟨rfl, hb⟩; refine ⟨_, rfl, ?_⟩; have n0_ := Aside0.mk (blk_below (g := gb20) (o := .cells #[.int .i64 a1_0, .int .i64 a1_1] 32 (0, 0)) zk hb); have n1_ := Aside0.mk (blk_below (g := gb21) (o := .cells #[.int .i64 0, .int .i64 0] 34 (0, 0)) zk hb); have n2_ := Aside0.mk (below_step zb hb); clear BK20; clear BK21; clear HB; have BK20 := n0_; have BK21 := n1_; have HB := n2_; clear n0_ n1_ n2_; (try clear hb); (try clear hb2); (try clear hk); (try clear hi); obtain ⟨hcz13_0, hcz13_1, hfz13_0, hfz13_1⟩ := Lv.blks2 BK21.out))
  refine bodyPost_ret (results_cell_row rfl _ _ gb21 34 #[.int .i64 t23, .int .i64 t24] (0, 0) _ rfl (by (with_reducible repeat (first | refine blk_drewN ?_ _ | refine blk_drew ?_ | refine blk_alloc ?_ _)); refine blk_put (cs := #[.int .i64 t23, .int .i64 0]) ?_ 1 _ rfl; (with_reducible repeat (first | refine blk_drewN ?_ _ | refine blk_drew ?_ | refine blk_alloc ?_ _)); refine blk_put (cs := #[.int .i64 0, .int .i64 0]) ?_ 0 _ rfl; (with_reducible repeat (first | refine blk_drewN ?_ _ | refine blk_drew ?_ | refine blk_alloc ?_ _)); exact BK21.out) Try.underlying34 rfl (by kernel_rfl)) rfl ?_
  exact ⟨ze, zb⟩
 rw [if_neg c4] at H
 have c4b0 : (t22 == 0) = false := beq_eq_false_iff_ne.mpr c4
 have c4b1 : (t22 != 0) = true := bne_iff_ne.mpr c4
 simp only [Option.some.injEq, Prod.mk.injEq] at H
 obtain ⟨rfl, rfl⟩ := H
 go_enter Try.func10, Try.ntmps10
 go_wp2_with (first | ((with_reducible refine gate_dst (N := 3) rfl ?_); refine box_event ?hg (N := 3) ?hd (cs := #[.int .i64 a1_0, .int .i64 a1_1]) (t := 32) ?hr ?_; (case hd => rfl); (case hg => rfl); (case hr => first | (go_simp; done) | (go_simp; rfl)); intro gb20 hg w14 hbox hb; have n0_ := Aside0.mk (below_step zb hb); have n1_ := Aside0.mk (hbox); have n2_ := Aside0.mk ((by rw [hg]; exact (below_size zb) : w.heap.size ≤ gb20)); have n3_ := n2_; clear HB; have HB := n0_; have BK20 := n1_; have GW20 := n2_; have GE20 := n3_; clear n0_ n1_ n2_ n3_; clear hb hbox hg) | ((with_reducible refine gate_dst (N := 4) rfl ?_); refine box_event ?hg (N := 4) ?hd (cs := #[.int .i64 0, .int .i64 0]) (t := 34) ?hr ?_; (case hd => rfl); (case hg => rfl); (case hr => first | (go_simp; done) | (go_simp; rfl)); intro gb21 hg w15 hbox hb; have n0_ := Aside0.mk (blk_below (g := gb20) (o := .cells #[.int .i64 a1_0, .int .i64 a1_1] 32 (0, 0)) zk hb); have n1_ := Aside0.mk (below_step zb hb); have n2_ := Aside0.mk (hbox); have n3_ := Aside0.mk ((by rw [hg]; exact (below_size zb) : w.heap.size ≤ gb21)); have n4_ := n3_; have n5_ := Aside0.mk ((by rw [hg]; exact Nat.ne_of_lt (blk_lt (g := gb20) (o := .cells #[.int .i64 a1_0, .int .i64 a1_1] 32 (0, 0)) zk) : gb20 ≠ gb21)); have n6_ := Aside0.mk ((by rw [hg]; exact Nat.ne_of_gt (blk_lt (g := gb20) (o := .cells #[.int .i64 a1_0, .int .i64 a1_1] 32 (0, 0)) zk) : gb21 ≠ gb20)); clear BK20; clear HB; have BK20 := n0_; have HB := n1_; have BK21 := n2_; have GW21 := n3_; have GE21 := n4_; have NB279_280 := n5_; have NB280_279 := n6_; clear n0_ n1_ n2_ n3_ n4_ n5_ n6_; clear hb hbox hg; have hnb16 := NB279_280.out; have hnc16 := NB280_279.out; obtain ⟨hcz17_0, hcz17_1, hfz17_0, hfz17_1⟩ := Lv.blks2 BK20.out) | ((with_reducible refine gate_callee (f := 30) rfl ?_); refine goesL_ (some 8) rfl rfl Try.func30 (by kernel_rfl) rfl #[.slice A0 l0.length c0, .agg #[.int .i64 a1_0, .int .i64 a1_1]] rfl zm ?_; (with_reducible refine (impl_viewCode.calls k _ _ l0 a1_0 a1_1 t22 _ ?side1 ?side2 A3.out).mono ?_); (case side1 => repeat (first | exact (Kd.C_below HR0.out HB.out) | (with_reducible first | refine Kd.C_alloc ?_ _ | refine Kd.C_drewN ?_ _ | refine Kd.C_drew ?_))); (case side2 => exact HC0.out); rintro e w18 ⟨rfl, hb⟩; refine ⟨_, rfl, ?_⟩; have n0_ := Aside0.mk (blk_below (g := gb20) (o := .cells #[.int .i64 a1_0, .int .i64 a1_1] 32 (0, 0)) zk hb); have n1_ := Aside0.mk (blk_below (g := gb21) (o := .cells #[.int .i64 0, .int .i64 0] 34 (0, 0)) zk hb); have n2_ := Aside0.mk (below_step zb hb); clear BK20; clear BK21; clear HB; have BK20 := n0_; have BK21 := n1_; have HB := n2_; clear n0_ n1_ n2_; (try clear hb); (try clear hb2); (try clear hk); (try clear hi); obtain ⟨hcz19_0, hcz19_1, hfz19_0, hfz19_1⟩ := Lv.blks2 BK21.out))
 refine bodyPost_ret (results_cell_row rfl _ _ gb21 34 #[.int .i64 t22, .int .i64 0] (0, 0) _ rfl (by (with_reducible repeat (first | refine blk_drewN ?_ _ | refine blk_drew ?_ | refine blk_alloc ?_ _)); refine blk_put (cs := #[.int .i64 t22, .int .i64 0]) ?_ 1 _ rfl; (with_reducible repeat (first | refine blk_drewN ?_ _ | refine blk_drew ?_ | refine blk_alloc ?_ _)); refine blk_put (cs := #[.int .i64 0, .int .i64 0]) ?_ 0 _ rfl; (with_reducible repeat (first | refine blk_drewN ?_ _ | refine blk_drew ?_ | refine blk_alloc ?_ _)); exact BK21.out) Try.underlying34 rfl (by kernel_rfl)) rfl ?_
 exact ⟨ze, zb⟩
end Go.Proofs.Ytkaammmkejiafaa.P
