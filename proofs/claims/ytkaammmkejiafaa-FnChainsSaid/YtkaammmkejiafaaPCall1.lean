import Derived.Test.YtkaammmkejiafaaZz
import Derived.Test.YtkaammmkejiafaaP0
import Derived.Test.YtkaammmkejiafaaPCall0
import Derived.Test.YtkaammmkejiafaaPDall0
import Derived.Test.YtkaammmkejiafaaWRepsOne
import Derived.Test.YtkaammmkejiafaaLv
namespace Go.Proofs.Ytkaammmkejiafaa.P
open Go.RowKit Go.Proofs.YtkaammmkejiafaaW.PrintWords Go.Proofs.YtkaammmkejiafaaW.PrintLast Go.Proofs.YtkaammmkejiafaaW.PrintMore
attribute [local go_sem] max2_int min2_int max_two min_two max_three min_three max_four min_four   -- for this text's walks alone
set_option linter.unusedVariables false
set_option linter.unusedSimpArgs false
set_option maxHeartbeats 40000000 in
set_option maxRecDepth 100000 in
theorem impl_ChainFault.calls (k : Nat) (A0 : Option Addr) (c0 : Nat) (l0 : List (S51)) (r : Int) (w : World) (hr0 : Kd.C k51 w A0 l0.length l0) (hc0 : l0.length ≤ c0) (h : impl_ChainFault.f k l0 = some r) :
 Calls Try.prog 9 #[.slice A0 l0.length c0] w fun e w' => e = .returned (.int .i64 r) ∧ Below w.heap.size w w' := by
 have hu51 := Try.underlying51
 have HR0 := Aside0.mk hr0
 have HC0 := Aside0.mk hc0
 clear hr0 hc0
 have HB := Aside0.mk (Below.refl w.heap.size w)
 have H : (if (l0.length : Int) > 12 then (some 2) else (impl_ChainFault.l0 k l0 l0 (l0.length : Int) 0)) = some r := h
 clear h
 by_cases c2 : (l0.length : Int) > 12
 ·rw [if_pos c2] at H
  have c2b0 : decide (12 < (l0.length : Int)) = true := decide_eq_true c2
  have c2b1 : decide (12 < l0.length) = true := decide_eq_true (by omega)
  clear c2
  obtain rfl := Option.some.inj H
  go_enter Try.func9, Try.ntmps9
  go_wp2
  repeat (go_quiet (fail); try go_wp2)
  go_ret
  exact ⟨ze, zb⟩
 rw [if_neg c2] at H
 have c2b0 : decide (12 < (l0.length : Int)) = false := decide_eq_false c2
 have c2b1 : decide (12 < l0.length) = false := decide_eq_false (by omega)
 clear c2
 have H' := Aside0.mk H
 clear H
 go_enter Try.func9, Try.ntmps9
 go_wp2
 repeat (go_quiet (fail); try go_wp2)
 go_loopg [10] k (fun kq v10 w' => ∃ (x10_1 : Int), v10 = .int .i64 x10_1 ∧ Aside0 (impl_ChainFault.l0 kq l0 l0 (l0.length : Int) x10_1 = some r) ∧ Aside0 (kq ≤ k) ∧ Aside0 (Below w.heap.size w w'))
 case atStart => exact ⟨(0), zs, H', ⟨Nat.le_refl _⟩, ⟨zb⟩⟩
 case round =>
  clear H'
  try clear c2
  try clear c2b0
  try clear c2b1
  try clear p2
  obtain ⟨x10_1, rfl, HA, HK1, HB⟩ := hrel
  cases gk with
  | zero => exact absurd HA.out (by simp [impl_ChainFault.l0])
  | succ k1 =>
   have H := HA.out
   clear HA
   simp only [impl_ChainFault.l0] at H
   by_cases c3 : x10_1 < (l0.length : Int)
   ·rw [if_pos c3] at H
    have c3b0 : decide (x10_1 < (l0.length : Int)) = true := decide_eq_true c3
    clear c3
    by_cases c4 : 0 ≤ x10_1
    ·rw [if_pos c4] at H
     have c4b0 : decide (0 ≤ x10_1) = true := decide_eq_true c4
     clear c4
     by_cases c5 : x10_1 < (l0.length : Int)
     ·rw [if_pos c5] at H
      have c5b0 : decide (x10_1 < (l0.length : Int)) = true := decide_eq_true c5
      clear c5
      have HC6 := Aside0.mk H
      clear H
      have p197 : 0 ≤ (x10_1 : Int) := of_decide_eq_true za
      have q37 : x10_1 < (l0.length : Int) := of_decide_eq_true za
      obtain ⟨ad37, e197, hx37_0, hx37_1, hx37_2, hx37_3⟩ := at_T51 (Kd.C_below HR0.out HB.out) x10_1 p197 q37
      cases e197
      replace p197 := eq_true p197
      replace q37 := eq_true q37
      go_upto_region 6 with (first | ((with_reducible refine gate_dst (N := 4) rfl ?_); refine box_event ?hg (N := 4) ?hd (cs := #[.int .i64 0, .int .i64 0, .bool false, .int .i64 0]) (t := 51) ?hr ?_; (case hd => rfl); (case hg => rfl); (case hr => first | (go_simp; done) | (go_simp; rfl)); intro gb35 hg w7 hbox hb; have n0_ := Aside0.mk (below_step zb hb); have n1_ := Aside0.mk (hbox); have n2_ := Aside0.mk ((by rw [hg]; exact (below_size zb) : w.heap.size ≤ gb35)); have n3_ := n2_; clear HB; have HB := n0_; have BK35 := n1_; have GW35 := n2_; have GE35 := n3_; clear n0_ n1_ n2_ n3_; clear hb hbox hg; obtain ⟨hcz8_0, hcz8_1, hcz8_2, hcz8_3, hfz8_0, hfz8_1, hfz8_2, hfz8_3⟩ := Lv.blks4 BK35.out))
      repeat (go_quiet (first | ((with_reducible refine gate_dst (N := 4) rfl ?_); refine box_event ?hg (N := 4) ?hd (cs := #[.int .i64 0, .int .i64 0, .bool false, .int .i64 0]) (t := 51) ?hr ?_; (case hd => rfl); (case hg => rfl); (case hr => first | (go_simp; done) | (go_simp; rfl)); intro gb35 hg w7 hbox hb; have n0_ := Aside0.mk (below_step zb hb); have n1_ := Aside0.mk (hbox); have n2_ := Aside0.mk ((by rw [hg]; exact (below_size zb) : w.heap.size ≤ gb35)); have n3_ := n2_; clear HB; have HB := n0_; have BK35 := n1_; have GW35 := n2_; have GE35 := n3_; clear n0_ n1_ n2_ n3_; clear hb hbox hg; obtain ⟨hcz8_0, hcz8_1, hcz8_2, hcz8_3, hfz8_0, hfz8_1, hfz8_2, hfz8_3⟩ := Lv.blks4 BK35.out)); go_upto_region 6 with (first | ((with_reducible refine gate_dst (N := 4) rfl ?_); refine box_event ?hg (N := 4) ?hd (cs := #[.int .i64 0, .int .i64 0, .bool false, .int .i64 0]) (t := 51) ?hr ?_; (case hd => rfl); (case hg => rfl); (case hr => first | (go_simp; done) | (go_simp; rfl)); intro gb35 hg w7 hbox hb; have n0_ := Aside0.mk (below_step zb hb); have n1_ := Aside0.mk (hbox); have n2_ := Aside0.mk ((by rw [hg]; exact (below_size zb) : w.heap.size ≤ gb35)); have n3_ := n2_; clear HB; have HB := n0_; have BK35 := n1_; have GW35 := n2_; have GE35 := n3_; clear n0_ n1_ n2_ n3_; clear hb hbox hg; obtain ⟨hcz8_0, hcz8_1, hcz8_2, hcz8_3, hfz8_0, hfz8_1, hfz8_2, hfz8_3⟩ := Lv.blks4 BK35.out)))
      (try simp only [Act.put, List.setIfInBounds_toArray, List.set_cons_zero, List.set_cons_succ])
      go_cut [15] (fun v15 wc => ∃ (kq : Nat) (x15_5 : Bool), v15 = .bool x15_5 ∧ Aside0 (impl_ChainFault.j1 kq l0 x10_1 l0 (l0.length : Int) x10_1 x15_5 ((rd_T51 l0 x10_1).f0) ((rd_T51 l0 x10_1).f1) ((rd_T51 l0 x10_1).f2) ((rd_T51 l0 x10_1).f3) = some r) ∧ Aside0 (kq ≤ k1) ∧ Aside0 (wc.heap[gb35]? = some (.cells #[.int .i64 ((rd_T51 l0 x10_1).f0), .int .i64 ((rd_T51 l0 x10_1).f1), .bool ((rd_T51 l0 x10_1).f2), .int .i64 ((rd_T51 l0 x10_1).f3)] 51 (0, 0))) ∧ Aside0 (Below w.heap.size w wc))
      case first =>
       have H := HC6.out
       clear HC6
       replace H := Option.bind_eq_some_iff.mp H
       obtain ⟨t41, A90, H⟩ := H
       replace H : (if t41 = true then ((impl_isLsn.f ((rd_T51 l0 x10_1).f1)).bind fun t40 => (if t40 = true then ((impl_isValue.f ((rd_T51 l0 x10_1).f3)).bind fun t39 => (impl_ChainFault.j1 k1 l0 x10_1 l0 (l0.length : Int) x10_1 (!t39) ((rd_T51 l0 x10_1).f0) ((rd_T51 l0 x10_1).f1) ((rd_T51 l0 x10_1).f2) ((rd_T51 l0 x10_1).f3))) else (impl_ChainFault.j1 k1 l0 x10_1 l0 (l0.length : Int) x10_1 true ((rd_T51 l0 x10_1).f0) ((rd_T51 l0 x10_1).f1) ((rd_T51 l0 x10_1).f2) ((rd_T51 l0 x10_1).f3)))) else (impl_ChainFault.j1 k1 l0 x10_1 l0 (l0.length : Int) x10_1 true ((rd_T51 l0 x10_1).f0) ((rd_T51 l0 x10_1).f1) ((rd_T51 l0 x10_1).f2) ((rd_T51 l0 x10_1).f3))) = some r := H
       have A9 := Aside0.mk A90
       clear A90
       by_cases c10 : t41 = true
       ·subst c10
        have H1 : ((impl_isLsn.f ((rd_T51 l0 x10_1).f1)).bind fun t40 => (if t40 = true then ((impl_isValue.f ((rd_T51 l0 x10_1).f3)).bind fun t39 => (impl_ChainFault.j1 k1 l0 x10_1 l0 (l0.length : Int) x10_1 (!t39) ((rd_T51 l0 x10_1).f0) ((rd_T51 l0 x10_1).f1) ((rd_T51 l0 x10_1).f2) ((rd_T51 l0 x10_1).f3))) else (impl_ChainFault.j1 k1 l0 x10_1 l0 (l0.length : Int) x10_1 true ((rd_T51 l0 x10_1).f0) ((rd_T51 l0 x10_1).f1) ((rd_T51 l0 x10_1).f2) ((rd_T51 l0 x10_1).f3)))) = some r := by rw [if_pos rfl] at H; exact H
        clear H
        have H := H1
        clear H1
        replace H := Option.bind_eq_some_iff.mp H
        obtain ⟨t40, A42, H⟩ := H
        replace H : (if t40 = true then ((impl_isValue.f ((rd_T51 l0 x10_1).f3)).bind fun t39 => (impl_ChainFault.j1 k1 l0 x10_1 l0 (l0.length : Int) x10_1 (!t39) ((rd_T51 l0 x10_1).f0) ((rd_T51 l0 x10_1).f1) ((rd_T51 l0 x10_1).f2) ((rd_T51 l0 x10_1).f3))) else (impl_ChainFault.j1 k1 l0 x10_1 l0 (l0.length : Int) x10_1 true ((rd_T51 l0 x10_1).f0) ((rd_T51 l0 x10_1).f1) ((rd_T51 l0 x10_1).f2) ((rd_T51 l0 x10_1).f3))) = some r := H
        have A11 := Aside0.mk A42
        clear A42
        by_cases c12 : t40 = true
        ·subst c12
         have H1 : ((impl_isValue.f ((rd_T51 l0 x10_1).f3)).bind fun t39 => (impl_ChainFault.j1 k1 l0 x10_1 l0 (l0.length : Int) x10_1 (!t39) ((rd_T51 l0 x10_1).f0) ((rd_T51 l0 x10_1).f1) ((rd_T51 l0 x10_1).f2) ((rd_T51 l0 x10_1).f3))) = some r := by rw [if_pos rfl] at H; exact H
         clear H
         have H := H1
         clear H1
         replace H := Option.bind_eq_some_iff.mp H
         obtain ⟨t39, A43, H⟩ := H
         replace H : (impl_ChainFault.j1 k1 l0 x10_1 l0 (l0.length : Int) x10_1 (!t39) ((rd_T51 l0 x10_1).f0) ((rd_T51 l0 x10_1).f1) ((rd_T51 l0 x10_1).f2) ((rd_T51 l0 x10_1).f3)) = some r := H
         have A13 := Aside0.mk A43
         clear A43
         have H' := Aside0.mk H
         clear H
         obtain ⟨hcz14_0, hcz14_1, hcz14_2, hcz14_3, hfz14_0, hfz14_1, hfz14_2, hfz14_3⟩ := Lv.blks4 BK35.out
         go_wp2_with (first | (go_at_call 28; (with_reducible refine (impl_isTxn.calls ((rd_T51 l0 x10_1).f0) true _ A9.out).mono ?_); rintro e w' ⟨rfl, ⟨nd, rfl⟩⟩; (try first | exact ⟨rfl, _, World.drewN_drewN _ _ _⟩ | exact ⟨rfl, _, Eq.trans (World.drewN_drewN _ _ _) (congrArg (World.drewN _) (Nat.add_assoc _ _ _))⟩)) | (go_at_call 23; (with_reducible refine (impl_isLsn.calls ((rd_T51 l0 x10_1).f1) true _ A11.out).mono ?_); rintro e w' ⟨rfl, ⟨nd, rfl⟩⟩; (try first | exact ⟨rfl, _, World.drewN_drewN _ _ _⟩ | exact ⟨rfl, _, Eq.trans (World.drewN_drewN _ _ _) (congrArg (World.drewN _) (Nat.add_assoc _ _ _))⟩)) | (go_at_call 29; (with_reducible refine (impl_isValue.calls ((rd_T51 l0 x10_1).f3) t39 _ A13.out).mono ?_); rintro e w' ⟨rfl, ⟨nd, rfl⟩⟩; (try first | exact ⟨rfl, _, World.drewN_drewN _ _ _⟩ | exact ⟨rfl, _, Eq.trans (World.drewN_drewN _ _ _) (congrArg (World.drewN _) (Nat.add_assoc _ _ _))⟩)))
         repeat (go_quiet (first | (go_at_call 28; (with_reducible refine (impl_isTxn.calls ((rd_T51 l0 x10_1).f0) true _ A9.out).mono ?_); rintro e w' ⟨rfl, ⟨nd, rfl⟩⟩; (try first | exact ⟨rfl, _, World.drewN_drewN _ _ _⟩ | exact ⟨rfl, _, Eq.trans (World.drewN_drewN _ _ _) (congrArg (World.drewN _) (Nat.add_assoc _ _ _))⟩)) | (go_at_call 23; (with_reducible refine (impl_isLsn.calls ((rd_T51 l0 x10_1).f1) true _ A11.out).mono ?_); rintro e w' ⟨rfl, ⟨nd, rfl⟩⟩; (try first | exact ⟨rfl, _, World.drewN_drewN _ _ _⟩ | exact ⟨rfl, _, Eq.trans (World.drewN_drewN _ _ _) (congrArg (World.drewN _) (Nat.add_assoc _ _ _))⟩)) | (go_at_call 29; (with_reducible refine (impl_isValue.calls ((rd_T51 l0 x10_1).f3) t39 _ A13.out).mono ?_); rintro e w' ⟨rfl, ⟨nd, rfl⟩⟩; (try first | exact ⟨rfl, _, World.drewN_drewN _ _ _⟩ | exact ⟨rfl, _, Eq.trans (World.drewN_drewN _ _ _) (congrArg (World.drewN _) (Nat.add_assoc _ _ _))⟩))); try go_wp2_with (first | (go_at_call 28; (with_reducible refine (impl_isTxn.calls ((rd_T51 l0 x10_1).f0) true _ A9.out).mono ?_); rintro e w' ⟨rfl, ⟨nd, rfl⟩⟩; (try first | exact ⟨rfl, _, World.drewN_drewN _ _ _⟩ | exact ⟨rfl, _, Eq.trans (World.drewN_drewN _ _ _) (congrArg (World.drewN _) (Nat.add_assoc _ _ _))⟩)) | (go_at_call 23; (with_reducible refine (impl_isLsn.calls ((rd_T51 l0 x10_1).f1) true _ A11.out).mono ?_); rintro e w' ⟨rfl, ⟨nd, rfl⟩⟩; (try first | exact ⟨rfl, _, World.drewN_drewN _ _ _⟩ | exact ⟨rfl, _, Eq.trans (World.drewN_drewN _ _ _) (congrArg (World.drewN _) (Nat.add_assoc _ _ _))⟩)) | (go_at_call 29; (with_reducible refine (impl_isValue.calls ((rd_T51 l0 x10_1).f3) t39 _ A13.out).mono ?_); rintro e w' ⟨rfl, ⟨nd, rfl⟩⟩; (try first | exact ⟨rfl, _, World.drewN_drewN _ _ _⟩ | exact ⟨rfl, _, Eq.trans (World.drewN_drewN _ _ _) (congrArg (World.drewN _) (Nat.add_assoc _ _ _))⟩))))
         go_meet
         case rel => exact ⟨_, (!t39), zs, H', ⟨by have := HK1.out; first | omega | exact Nat.le_refl _⟩, ⟨by (with_reducible repeat (first | refine blk_drewN ?_ _ | refine blk_drew ?_ | refine blk_alloc ?_ _)); refine blk_put (cs := #[.int .i64 ((rd_T51 l0 x10_1).f0), .int .i64 ((rd_T51 l0 x10_1).f1), .bool ((rd_T51 l0 x10_1).f2), .int .i64 0]) ?_ 3 _ rfl; (with_reducible repeat (first | refine blk_drewN ?_ _ | refine blk_drew ?_ | refine blk_alloc ?_ _)); refine blk_put (cs := #[.int .i64 ((rd_T51 l0 x10_1).f0), .int .i64 ((rd_T51 l0 x10_1).f1), .bool false, .int .i64 0]) ?_ 2 _ rfl; (with_reducible repeat (first | refine blk_drewN ?_ _ | refine blk_drew ?_ | refine blk_alloc ?_ _)); refine blk_put (cs := #[.int .i64 ((rd_T51 l0 x10_1).f0), .int .i64 0, .bool false, .int .i64 0]) ?_ 1 _ rfl; (with_reducible repeat (first | refine blk_drewN ?_ _ | refine blk_drew ?_ | refine blk_alloc ?_ _)); refine blk_put (cs := #[.int .i64 0, .int .i64 0, .bool false, .int .i64 0]) ?_ 0 _ rfl; (with_reducible repeat (first | refine blk_drewN ?_ _ | refine blk_drew ?_ | refine blk_alloc ?_ _)); exact BK35.out⟩, ⟨zb⟩⟩
        replace c12 := Bool.eq_false_iff.mpr c12
        subst c12
        have H1 : (impl_ChainFault.j1 k1 l0 x10_1 l0 (l0.length : Int) x10_1 true ((rd_T51 l0 x10_1).f0) ((rd_T51 l0 x10_1).f1) ((rd_T51 l0 x10_1).f2) ((rd_T51 l0 x10_1).f3)) = some r := by rw [if_neg (show ¬ (false = true) by decide)] at H; exact H
        clear H
        have H := H1
        clear H1
        have H' := Aside0.mk H
        clear H
        obtain ⟨hcz15_0, hcz15_1, hcz15_2, hcz15_3, hfz15_0, hfz15_1, hfz15_2, hfz15_3⟩ := Lv.blks4 BK35.out
        go_wp2_with (first | (go_at_call 28; (with_reducible refine (impl_isTxn.calls ((rd_T51 l0 x10_1).f0) true _ A9.out).mono ?_); rintro e w' ⟨rfl, ⟨nd, rfl⟩⟩; (try first | exact ⟨rfl, _, World.drewN_drewN _ _ _⟩ | exact ⟨rfl, _, Eq.trans (World.drewN_drewN _ _ _) (congrArg (World.drewN _) (Nat.add_assoc _ _ _))⟩)) | (go_at_call 23; (with_reducible refine (impl_isLsn.calls ((rd_T51 l0 x10_1).f1) false _ A11.out).mono ?_); rintro e w' ⟨rfl, ⟨nd, rfl⟩⟩; (try first | exact ⟨rfl, _, World.drewN_drewN _ _ _⟩ | exact ⟨rfl, _, Eq.trans (World.drewN_drewN _ _ _) (congrArg (World.drewN _) (Nat.add_assoc _ _ _))⟩)))
        repeat (go_quiet (first | (go_at_call 28; (with_reducible refine (impl_isTxn.calls ((rd_T51 l0 x10_1).f0) true _ A9.out).mono ?_); rintro e w' ⟨rfl, ⟨nd, rfl⟩⟩; (try first | exact ⟨rfl, _, World.drewN_drewN _ _ _⟩ | exact ⟨rfl, _, Eq.trans (World.drewN_drewN _ _ _) (congrArg (World.drewN _) (Nat.add_assoc _ _ _))⟩)) | (go_at_call 23; (with_reducible refine (impl_isLsn.calls ((rd_T51 l0 x10_1).f1) false _ A11.out).mono ?_); rintro e w' ⟨rfl, ⟨nd, rfl⟩⟩; (try first | exact ⟨rfl, _, World.drewN_drewN _ _ _⟩ | exact ⟨rfl, _, Eq.trans (World.drewN_drewN _ _ _) (congrArg (World.drewN _) (Nat.add_assoc _ _ _))⟩))); try go_wp2_with (first | (go_at_call 28; (with_reducible refine (impl_isTxn.calls ((rd_T51 l0 x10_1).f0) true _ A9.out).mono ?_); rintro e w' ⟨rfl, ⟨nd, rfl⟩⟩; (try first | exact ⟨rfl, _, World.drewN_drewN _ _ _⟩ | exact ⟨rfl, _, Eq.trans (World.drewN_drewN _ _ _) (congrArg (World.drewN _) (Nat.add_assoc _ _ _))⟩)) | (go_at_call 23; (with_reducible refine (impl_isLsn.calls ((rd_T51 l0 x10_1).f1) false _ A11.out).mono ?_); rintro e w' ⟨rfl, ⟨nd, rfl⟩⟩; (try first | exact ⟨rfl, _, World.drewN_drewN _ _ _⟩ | exact ⟨rfl, _, Eq.trans (World.drewN_drewN _ _ _) (congrArg (World.drewN _) (Nat.add_assoc _ _ _))⟩))))
        go_meet
        case rel => exact ⟨_, (true), zs, H', ⟨by have := HK1.out; first | omega | exact Nat.le_refl _⟩, ⟨by (with_reducible repeat (first | refine blk_drewN ?_ _ | refine blk_drew ?_ | refine blk_alloc ?_ _)); refine blk_put (cs := #[.int .i64 ((rd_T51 l0 x10_1).f0), .int .i64 ((rd_T51 l0 x10_1).f1), .bool ((rd_T51 l0 x10_1).f2), .int .i64 0]) ?_ 3 _ rfl; (with_reducible repeat (first | refine blk_drewN ?_ _ | refine blk_drew ?_ | refine blk_alloc ?_ _)); refine blk_put (cs := #[.int .i64 ((rd_T51 l0 x10_1).f0), .int .i64 ((rd_T51 l0 x10_1).f1), .bool false, .int .i64 0]) ?_ 2 _ rfl; (with_reducible repeat (first | refine blk_drewN ?_ _ | refine blk_drew ?_ | refine blk_alloc ?_ _)); refine blk_put (cs := #[.int .i64 ((rd_T51 l0 x10_1).f0), .int .i64 0, .bool false, .int .i64 0]) ?_ 1 _ rfl; (with_reducible repeat (first | refine blk_drewN ?_ _ | refine blk_drew ?_ | refine blk_alloc ?_ _)); refine blk_put (cs := #[.int .i64 0, .int .i64 0, .bool false, .int .i64 0]) ?_ 0 _ rfl; (with_reducible repeat (first | refine blk_drewN ?_ _ | refine blk_drew ?_ | refine blk_alloc ?_ _)); exact BK35.out⟩, ⟨zb⟩⟩
       replace c10 := Bool.eq_false_iff.mpr c10
       subst c10
       have H1 : (impl_ChainFault.j1 k1 l0 x10_1 l0 (l0.length : Int) x10_1 true ((rd_T51 l0 x10_1).f0) ((rd_T51 l0 x10_1).f1) ((rd_T51 l0 x10_1).f2) ((rd_T51 l0 x10_1).f3)) = some r := by rw [if_neg (show ¬ (false = true) by decide)] at H; exact H
       clear H
       have H := H1
       clear H1
       have H' := Aside0.mk H
       clear H
       obtain ⟨hcz16_0, hcz16_1, hcz16_2, hcz16_3, hfz16_0, hfz16_1, hfz16_2, hfz16_3⟩ := Lv.blks4 BK35.out
       go_wp2_with (first | (go_at_call 28; (with_reducible refine (impl_isTxn.calls ((rd_T51 l0 x10_1).f0) false _ A9.out).mono ?_); rintro e w' ⟨rfl, ⟨nd, rfl⟩⟩; (try first | exact ⟨rfl, _, World.drewN_drewN _ _ _⟩ | exact ⟨rfl, _, Eq.trans (World.drewN_drewN _ _ _) (congrArg (World.drewN _) (Nat.add_assoc _ _ _))⟩)))
       repeat (go_quiet (first | (go_at_call 28; (with_reducible refine (impl_isTxn.calls ((rd_T51 l0 x10_1).f0) false _ A9.out).mono ?_); rintro e w' ⟨rfl, ⟨nd, rfl⟩⟩; (try first | exact ⟨rfl, _, World.drewN_drewN _ _ _⟩ | exact ⟨rfl, _, Eq.trans (World.drewN_drewN _ _ _) (congrArg (World.drewN _) (Nat.add_assoc _ _ _))⟩))); try go_wp2_with (first | (go_at_call 28; (with_reducible refine (impl_isTxn.calls ((rd_T51 l0 x10_1).f0) false _ A9.out).mono ?_); rintro e w' ⟨rfl, ⟨nd, rfl⟩⟩; (try first | exact ⟨rfl, _, World.drewN_drewN _ _ _⟩ | exact ⟨rfl, _, Eq.trans (World.drewN_drewN _ _ _) (congrArg (World.drewN _) (Nat.add_assoc _ _ _))⟩))))
       go_meet
       case rel => exact ⟨_, (true), zs, H', ⟨by have := HK1.out; first | omega | exact Nat.le_refl _⟩, ⟨by (with_reducible repeat (first | refine blk_drewN ?_ _ | refine blk_drew ?_ | refine blk_alloc ?_ _)); refine blk_put (cs := #[.int .i64 ((rd_T51 l0 x10_1).f0), .int .i64 ((rd_T51 l0 x10_1).f1), .bool ((rd_T51 l0 x10_1).f2), .int .i64 0]) ?_ 3 _ rfl; (with_reducible repeat (first | refine blk_drewN ?_ _ | refine blk_drew ?_ | refine blk_alloc ?_ _)); refine blk_put (cs := #[.int .i64 ((rd_T51 l0 x10_1).f0), .int .i64 ((rd_T51 l0 x10_1).f1), .bool false, .int .i64 0]) ?_ 2 _ rfl; (with_reducible repeat (first | refine blk_drewN ?_ _ | refine blk_drew ?_ | refine blk_alloc ?_ _)); refine blk_put (cs := #[.int .i64 ((rd_T51 l0 x10_1).f0), .int .i64 0, .bool false, .int .i64 0]) ?_ 1 _ rfl; (with_reducible repeat (first | refine blk_drewN ?_ _ | refine blk_drew ?_ | refine blk_alloc ?_ _)); refine blk_put (cs := #[.int .i64 0, .int .i64 0, .bool false, .int .i64 0]) ?_ 0 _ rfl; (with_reducible repeat (first | refine blk_drewN ?_ _ | refine blk_drew ?_ | refine blk_alloc ?_ _)); exact BK35.out⟩, ⟨zb⟩⟩
      case rest =>
       clear HC6
       try clear c1
       try clear p1
       try clear q1
       try clear hx1
       try clear c2
       try clear c2b0
       try clear c2b1
       try clear p2
       try clear c3
       try clear c3b0
       try clear c4
       try clear c4b0
       try clear c5
       try clear c5b0
       try clear c9
       try clear c10
       try clear c12
       try clear hcz14_0 hcz14_1 hcz14_2 hcz14_3
       try clear hcz15_0 hcz15_1 hcz15_2 hcz15_3
       try clear hcz16_0 hcz16_1 hcz16_2 hcz16_3
       try clear hcz8_0 hcz8_1 hcz8_2 hcz8_3
       try clear hfz14_0 hfz14_1 hfz14_2 hfz14_3
       try clear hfz15_0 hfz15_1 hfz15_2 hfz15_3
       try clear hfz16_0 hfz16_1 hfz16_2 hfz16_3
       try clear hfz8_0 hfz8_1 hfz8_2 hfz8_3
       try clear hx37_0
       try clear hx37_1
       try clear hx37_2
       try clear hx37_3
       try clear p197
       try clear p2
       try clear q37
       obtain ⟨kq, x15_5, rfl, HA, HJ5, BK35, HB⟩ := hcut
       cases kq with
       | zero => exact absurd HA.out (by simp [impl_ChainFault.j1])
       | succ kj5 =>
        have H := HA.out
        clear HA
        simp only [impl_ChainFault.j1] at H
        by_cases c17 : x15_5 = true
        ·subst c17
         have H1 : (some 3) = some r := by rw [if_pos rfl] at H; exact H
         clear H
         have H := H1
         clear H1
         obtain rfl := Option.some.inj H
         go_wp2
         repeat (go_quiet (fail); try go_wp2)
         go_ret
         exact ⟨ze, zb⟩
        replace c17 := Bool.eq_false_iff.mpr c17
        subst c17
        have H1 : (if ((rd_T51 l0 x10_1).f2) = true then (impl_ChainFault.j2 kj5 l0 x10_1 l0 (l0.length : Int) x10_1 (((rd_T51 l0 x10_1).f3) != 0) ((rd_T51 l0 x10_1).f0) ((rd_T51 l0 x10_1).f1) ((rd_T51 l0 x10_1).f2) ((rd_T51 l0 x10_1).f3)) else (impl_ChainFault.j2 kj5 l0 x10_1 l0 (l0.length : Int) x10_1 false ((rd_T51 l0 x10_1).f0) ((rd_T51 l0 x10_1).f1) ((rd_T51 l0 x10_1).f2) ((rd_T51 l0 x10_1).f3))) = some r := by rw [if_neg (show ¬ (false = true) by decide)] at H; exact H
        clear H
        have H := H1
        clear H1
        have HC18 := Aside0.mk H
        clear H
        go_upto_region 8 with (fail)
        repeat (go_quiet (fail); go_upto_region 8 with (fail))
        go_cut [32] (fun v32 wc => ∃ (kq : Nat) (x32_17 : Bool), v32 = .bool x32_17 ∧ Aside0 (impl_ChainFault.j2 kq l0 x10_1 l0 (l0.length : Int) x10_1 x32_17 ((rd_T51 l0 x10_1).f0) ((rd_T51 l0 x10_1).f1) ((rd_T51 l0 x10_1).f2) ((rd_T51 l0 x10_1).f3) = some r) ∧ Aside0 (kq ≤ kj5) ∧ Aside0 (wc.heap[gb35]? = some (.cells #[.int .i64 ((rd_T51 l0 x10_1).f0), .int .i64 ((rd_T51 l0 x10_1).f1), .bool ((rd_T51 l0 x10_1).f2), .int .i64 ((rd_T51 l0 x10_1).f3)] 51 (0, 0))) ∧ Aside0 (Below w.heap.size w wc))
        case first =>
         have H := HC18.out
         clear HC18
         by_cases c19 : ((rd_T51 l0 x10_1).f2) = true
         ·rw [if_pos c19] at H
          have c19b0 : ((rd_T51 l0 x10_1).f2) = true := c19
          clear c19
          (first | rw [c19b0] | (simp only [i64_w, i32_w]; rw [c19b0]) | skip)
          have H' := Aside0.mk H
          clear H
          obtain ⟨hcz20_0, hcz20_1, hcz20_2, hcz20_3, hfz20_0, hfz20_1, hfz20_2, hfz20_3⟩ := Lv.blks4 BK35.out
          go_wp2
          repeat (go_quiet (fail); try go_wp2)
          go_meet
          case rel => exact ⟨_, ((((rd_T51 l0 x10_1).f3) != 0)), zs, H', ⟨by have := HK1.out; have := HJ5.out; first | omega | exact Nat.le_refl _⟩, ⟨by (with_reducible repeat (first | refine blk_drewN ?_ _ | refine blk_drew ?_ | refine blk_alloc ?_ _)); exact BK35.out⟩, ⟨zb⟩⟩
         rw [if_neg c19] at H
         have c19b0 : ((rd_T51 l0 x10_1).f2) = false := by simpa using c19
         clear c19
         (first | rw [c19b0] | (simp only [i64_w, i32_w]; rw [c19b0]) | skip)
         have H' := Aside0.mk H
         clear H
         obtain ⟨hcz21_0, hcz21_1, hcz21_2, hcz21_3, hfz21_0, hfz21_1, hfz21_2, hfz21_3⟩ := Lv.blks4 BK35.out
         go_wp2
         repeat (go_quiet (fail); try go_wp2)
         go_meet
         case rel => exact ⟨_, (false), zs, H', ⟨by have := HK1.out; have := HJ5.out; first | omega | exact Nat.le_refl _⟩, ⟨by (with_reducible repeat (first | refine blk_drewN ?_ _ | refine blk_drew ?_ | refine blk_alloc ?_ _)); exact BK35.out⟩, ⟨zb⟩⟩
        case rest =>
         clear HC18
         try clear c1
         try clear p1
         try clear q1
         try clear hx1
         try clear c2
         try clear c2b0
         try clear c2b1
         try clear p2
         try clear c3
         try clear c3b0
         try clear c4
         try clear c4b0
         try clear c5
         try clear c5b0
         try clear c9
         try clear c10
         try clear c12
         try clear c17
         try clear c19
         try clear c19b0
         try clear p19
         try clear q19
         try clear hx19
         try clear hcz14_0 hcz14_1 hcz14_2 hcz14_3
         try clear hcz15_0 hcz15_1 hcz15_2 hcz15_3
         try clear hcz16_0 hcz16_1 hcz16_2 hcz16_3
         try clear hcz20_0 hcz20_1 hcz20_2 hcz20_3
         try clear hcz21_0 hcz21_1 hcz21_2 hcz21_3
         try clear hcz8_0 hcz8_1 hcz8_2 hcz8_3
         try clear hfz14_0 hfz14_1 hfz14_2 hfz14_3
         try clear hfz15_0 hfz15_1 hfz15_2 hfz15_3
         try clear hfz16_0 hfz16_1 hfz16_2 hfz16_3
         try clear hfz20_0 hfz20_1 hfz20_2 hfz20_3
         try clear hfz21_0 hfz21_1 hfz21_2 hfz21_3
         try clear hfz8_0 hfz8_1 hfz8_2 hfz8_3
         try clear hx37_0
         try clear hx37_1
         try clear hx37_2
         try clear hx37_3
         try clear p1
         try clear p197
         try clear p2
         try clear q1
         try clear q37
         obtain ⟨kq, x32_17, rfl, HA, HJ17, BK35, HB⟩ := hcut
         cases kq with
         | zero => exact absurd HA.out (by simp [impl_ChainFault.j2])
         | succ kj17 =>
          have H := HA.out
          clear HA
          simp only [impl_ChainFault.j2] at H
          by_cases c22 : x32_17 = true
          ·subst c22
           have H1 : (some 1) = some r := by rw [if_pos rfl] at H; exact H
           clear H
           have H := H1
           clear H1
           obtain rfl := Option.some.inj H
           go_wp2
           repeat (go_quiet (fail); try go_wp2)
           go_ret
           exact ⟨ze, zb⟩
          replace c22 := Bool.eq_false_iff.mpr c22
          subst c22
          have H1 : (if ((rd_T51 l0 x10_1).f1) = 0 then (impl_ChainFault.j3 kj17 l0 x10_1 l0 (l0.length : Int) x10_1 (decide (x10_1 > 0)) ((rd_T51 l0 x10_1).f0) ((rd_T51 l0 x10_1).f1) ((rd_T51 l0 x10_1).f2) ((rd_T51 l0 x10_1).f3)) else (impl_ChainFault.j3 kj17 l0 x10_1 l0 (l0.length : Int) x10_1 false ((rd_T51 l0 x10_1).f0) ((rd_T51 l0 x10_1).f1) ((rd_T51 l0 x10_1).f2) ((rd_T51 l0 x10_1).f3))) = some r := by rw [if_neg (show ¬ (false = true) by decide)] at H; exact H
          clear H
          have H := H1
          clear H1
          have HC23 := Aside0.mk H
          clear H
          go_upto_region 9 with (fail)
          repeat (go_quiet (fail); go_upto_region 9 with (fail))
          go_cut [32] (fun v32 wc => ∃ (kq : Nat) (x32_22 : Bool), v32 = .bool x32_22 ∧ Aside0 (impl_ChainFault.j3 kq l0 x10_1 l0 (l0.length : Int) x10_1 x32_22 ((rd_T51 l0 x10_1).f0) ((rd_T51 l0 x10_1).f1) ((rd_T51 l0 x10_1).f2) ((rd_T51 l0 x10_1).f3) = some r) ∧ Aside0 (kq ≤ kj17) ∧ Aside0 (wc.heap[gb35]? = some (.cells #[.int .i64 ((rd_T51 l0 x10_1).f0), .int .i64 ((rd_T51 l0 x10_1).f1), .bool ((rd_T51 l0 x10_1).f2), .int .i64 ((rd_T51 l0 x10_1).f3)] 51 (0, 0))) ∧ Aside0 (Below w.heap.size w wc))
          case first =>
           have H := HC23.out
           clear HC23
           by_cases c24 : ((rd_T51 l0 x10_1).f1) = 0
           ·rw [if_pos c24] at H
            have c24b0 : (((rd_T51 l0 x10_1).f1) == 0) = true := beq_iff_eq.mpr c24
            have c24b1 : (((rd_T51 l0 x10_1).f1) != 0) = false := bne_eq_false_iff_eq.mpr c24
            clear c24
            (first | rw [c24b0] | (simp only [i64_w, i32_w]; rw [c24b0]) | skip)
            have H' := Aside0.mk H
            clear H
            obtain ⟨hcz25_0, hcz25_1, hcz25_2, hcz25_3, hfz25_0, hfz25_1, hfz25_2, hfz25_3⟩ := Lv.blks4 BK35.out
            go_wp2
            repeat (go_quiet (fail); try go_wp2)
            go_meet
            case rel => exact ⟨_, (decide (x10_1 > 0)), zs, H', ⟨by have := HK1.out; have := HJ5.out; have := HJ17.out; first | omega | exact Nat.le_refl _⟩, ⟨by (with_reducible repeat (first | refine blk_drewN ?_ _ | refine blk_drew ?_ | refine blk_alloc ?_ _)); exact BK35.out⟩, ⟨zb⟩⟩
           rw [if_neg c24] at H
           have c24b0 : (((rd_T51 l0 x10_1).f1) == 0) = false := beq_eq_false_iff_ne.mpr c24
           have c24b1 : (((rd_T51 l0 x10_1).f1) != 0) = true := bne_iff_ne.mpr c24
           (first | rw [c24b0] | (simp only [i64_w, i32_w]; rw [c24b0]) | skip)
           have H' := Aside0.mk H
           clear H
           obtain ⟨hcz26_0, hcz26_1, hcz26_2, hcz26_3, hfz26_0, hfz26_1, hfz26_2, hfz26_3⟩ := Lv.blks4 BK35.out
           go_wp2
           repeat (go_quiet (fail); try go_wp2)
           go_meet
           case rel => exact ⟨_, (false), zs, H', ⟨by have := HK1.out; have := HJ5.out; have := HJ17.out; first | omega | exact Nat.le_refl _⟩, ⟨by (with_reducible repeat (first | refine blk_drewN ?_ _ | refine blk_drew ?_ | refine blk_alloc ?_ _)); exact BK35.out⟩, ⟨zb⟩⟩
          case rest =>
           clear HC23
           try clear c1
           try clear p1
           try clear q1
           try clear hx1
           try clear c2
           try clear c2b0
           try clear c2b1
           try clear p2
           try clear c3
           try clear c3b0
           try clear c4
           try clear c4b0
           try clear c5
           try clear c5b0
           try clear c9
           try clear c10
           try clear c12
           try clear c17
           try clear c19
           try clear c19b0
           try clear p19
           try clear q19
           try clear hx19
           try clear c22
           try clear c24
           try clear c24b0
           try clear c24b1
           try clear hcz14_0 hcz14_1 hcz14_2 hcz14_3
           try clear hcz15_0 hcz15_1 hcz15_2 hcz15_3
           try clear hcz16_0 hcz16_1 hcz16_2 hcz16_3
           try clear hcz20_0 hcz20_1 hcz20_2 hcz20_3
           try clear hcz21_0 hcz21_1 hcz21_2 hcz21_3
           try clear hcz25_0 hcz25_1 hcz25_2 hcz25_3
           try clear hcz26_0 hcz26_1 hcz26_2 hcz26_3
           try clear hcz8_0 hcz8_1 hcz8_2 hcz8_3
           try clear hfz14_0 hfz14_1 hfz14_2 hfz14_3
           try clear hfz15_0 hfz15_1 hfz15_2 hfz15_3
           try clear hfz16_0 hfz16_1 hfz16_2 hfz16_3
           try clear hfz20_0 hfz20_1 hfz20_2 hfz20_3
           try clear hfz21_0 hfz21_1 hfz21_2 hfz21_3
           try clear hfz25_0 hfz25_1 hfz25_2 hfz25_3
           try clear hfz26_0 hfz26_1 hfz26_2 hfz26_3
           try clear hfz8_0 hfz8_1 hfz8_2 hfz8_3
           try clear hx37_0
           try clear hx37_1
           try clear hx37_2
           try clear hx37_3
           try clear p1
           try clear p19
           try clear p197
           try clear p2
           try clear q1
           try clear q19
           try clear q37
           obtain ⟨kq, x32_22, rfl, HA, HJ22, BK35, HB⟩ := hcut
           cases kq with
           | zero => exact absurd HA.out (by simp [impl_ChainFault.j3])
           | succ kj22 =>
            have H := HA.out
            clear HA
            simp only [impl_ChainFault.j3] at H
            by_cases c27 : x32_22 = true
            ·subst c27
             have H1 : (some 1) = some r := by rw [if_pos rfl] at H; exact H
             clear H
             have H := H1
             clear H1
             obtain rfl := Option.some.inj H
             go_wp2
             repeat (go_quiet (fail); try go_wp2)
             go_ret
             exact ⟨ze, zb⟩
            replace c27 := Bool.eq_false_iff.mpr c27
            subst c27
            have H1 : (if x10_1 > 0 then (if 0 ≤ (wrap64 (x10_1 - 1)) then (if (wrap64 (x10_1 - 1)) < (l0.length : Int) then (if ((rd_T51 l0 (wrap64 (x10_1 - 1))).f1) = 0 then (impl_ChainFault.l0 kj22 l0 l0 (l0.length : Int) (wrap64 (x10_1 + 1))) else (if ((rd_T51 l0 x10_1).f1) ≥ ((rd_T51 l0 (wrap64 (x10_1 - 1))).f1) then (some 1) else (impl_ChainFault.l0 kj22 l0 l0 (l0.length : Int) (wrap64 (x10_1 + 1))))) else (none)) else (none)) else (impl_ChainFault.l0 kj22 l0 l0 (l0.length : Int) (wrap64 (x10_1 + 1)))) = some r := by rw [if_neg (show ¬ (false = true) by decide)] at H; exact H
            clear H
            have H := H1
            clear H1
            by_cases c28 : x10_1 > 0
            ·rw [if_pos c28] at H
             have c28b0 : decide (0 < x10_1) = true := decide_eq_true c28
             clear c28
             obtain ⟨ji29, hji29⟩ : ∃ j_ : Int, (wrap64 (x10_1 - 1)) = j_ := ⟨_, rfl⟩
             replace H : (if 0 ≤ (ji29) then (if (ji29) < (l0.length : Int) then (if ((rd_T51 l0 (ji29)).f1) = 0 then (impl_ChainFault.l0 kj22 l0 l0 (l0.length : Int) (wrap64 (x10_1 + 1))) else (if ((rd_T51 l0 x10_1).f1) ≥ ((rd_T51 l0 (ji29)).f1) then (some 1) else (impl_ChainFault.l0 kj22 l0 l0 (l0.length : Int) (wrap64 (x10_1 + 1))))) else (none)) else (none)) = some r := by first | (rw [hji29] at H; exact H) | (simp only [hji29] at H ⊢; exact H)
             have hji29w : (IntKind.i64.wrap (x10_1 - 1)) = ji29 := (i64_w _).trans hji29
             by_cases c30 : 0 ≤ (ji29)
             ·rw [if_pos c30] at H
              have c30b0 : decide (0 ≤ (ji29)) = true := decide_eq_true c30
              clear c30
              by_cases c31 : (ji29) < (l0.length : Int)
              ·rw [if_pos c31] at H
               have c31b0 : decide ((ji29) < (l0.length : Int)) = true := decide_eq_true c31
               clear c31
               by_cases c32 : ((rd_T51 l0 (ji29)).f1) = 0
               ·rw [if_pos c32] at H
                have c32b0 : (((rd_T51 l0 (ji29)).f1) == 0) = true := beq_iff_eq.mpr c32
                have c32b1 : (((rd_T51 l0 (ji29)).f1) != 0) = false := bne_eq_false_iff_eq.mpr c32
                clear c32
                have H' := Aside0.mk H
                clear H
                have p202 : 0 ≤ ((ji29) : Int) := of_decide_eq_true za
                have q36 : (ji29) < (l0.length : Int) := of_decide_eq_true za
                obtain ⟨ad36, e202, hx36_0, hx36_1, hx36_2, hx36_3⟩ := at_T51 HR0.out (ji29) p202 q36
                obtain rfl : ad37 = ad36 := (by injection e202)
                replace hx36_0 := zx HB hx36_0
                replace hx36_1 := zx HB hx36_1
                replace hx36_2 := zx HB hx36_2
                replace hx36_3 := zx HB hx36_3
                replace p202 := eq_true p202
                replace q36 := eq_true q36
                go_wp2
                repeat (go_quiet (fail); try go_wp2)
                go_roundg kj22
                case measure => have := HK1.out; have := HJ5.out; have := HJ17.out; have := HJ22.out; omega
                case rel => exact ⟨(wrap64 (x10_1 + 1)), zs, H', ⟨by have := HK1.out; have := HJ5.out; have := HJ17.out; have := HJ22.out; omega⟩, ⟨zb⟩⟩
               rw [if_neg c32] at H
               have c32b0 : (((rd_T51 l0 (ji29)).f1) == 0) = false := beq_eq_false_iff_ne.mpr c32
               have c32b1 : (((rd_T51 l0 (ji29)).f1) != 0) = true := bne_iff_ne.mpr c32
               have HX_ := Aside0.mk H
               clear H
               have p202 : 0 ≤ ((ji29) : Int) := of_decide_eq_true za
               have q36 : (ji29) < (l0.length : Int) := of_decide_eq_true za
               obtain ⟨ad36, e202, hx36_0, hx36_1, hx36_2, hx36_3⟩ := at_T51 HR0.out (ji29) p202 q36
               obtain rfl : ad37 = ad36 := (by injection e202)
               replace hx36_0 := zx HB hx36_0
               replace hx36_1 := zx HB hx36_1
               replace hx36_2 := zx HB hx36_2
               replace hx36_3 := zx HB hx36_3
               replace p202 := eq_true p202
               replace q36 := eq_true q36
               obtain ⟨hcz34_0, hcz34_1, hcz34_2, hcz34_3, hfz34_0, hfz34_1, hfz34_2, hfz34_3⟩ := Lv.blks4 BK35.out
               have p203 : 0 ≤ ((ji29) : Int) := of_decide_eq_true za
               have q38 : (ji29) < (l0.length : Int) := of_decide_eq_true za
               obtain ⟨ad38, e203, hx38_0, hx38_1, hx38_2, hx38_3⟩ := at_T51 HR0.out (ji29) p203 q38
               obtain rfl : ad37 = ad38 := (by injection e203)
               replace hx38_0 := zx HB hx38_0
               replace hx38_1 := zx HB hx38_1
               replace hx38_2 := zx HB hx38_2
               replace hx38_3 := zx HB hx38_3
               replace p203 := eq_true p203
               replace q38 := eq_true q38
               have H := HX_.out
               clear HX_
               by_cases c33 : ((rd_T51 l0 x10_1).f1) ≥ ((rd_T51 l0 (ji29)).f1)
               ·rw [if_pos c33] at H
                have c33b0 : decide (((rd_T51 l0 (ji29)).f1) ≤ ((rd_T51 l0 x10_1).f1)) = true := decide_eq_true c33
                clear c33
                obtain rfl := Option.some.inj H
                go_wp2
                repeat (go_quiet (fail); try go_wp2)
                go_ret
                exact ⟨by first | rfl | (simp [errW_none, errW_some] <;> rfl) | (simp only [← hji29]; first | rfl | (simp [errW_none, errW_some] <;> rfl)) | (simp [*, errW_none, errW_some] <;> rfl), zb⟩
               rw [if_neg c33] at H
               have c33b0 : decide (((rd_T51 l0 (ji29)).f1) ≤ ((rd_T51 l0 x10_1).f1)) = false := decide_eq_false c33
               clear c33
               have H' := Aside0.mk H
               clear H
               go_wp2
               repeat (go_quiet (fail); try go_wp2)
               go_roundg kj22
               case measure => have := HK1.out; have := HJ5.out; have := HJ17.out; have := HJ22.out; omega
               case rel => exact ⟨(wrap64 (x10_1 + 1)), zs, H', ⟨by have := HK1.out; have := HJ5.out; have := HJ17.out; have := HJ22.out; omega⟩, ⟨zb⟩⟩
              rw [if_neg c31] at H
              exact absurd H (by simp)
             rw [if_neg c30] at H
             exact absurd H (by simp)
            rw [if_neg c28] at H
            have c28b0 : decide (0 < x10_1) = false := decide_eq_false c28
            clear c28
            have H' := Aside0.mk H
            clear H
            go_wp2
            repeat (go_quiet (fail); try go_wp2)
            go_roundg kj22
            case measure => have := HK1.out; have := HJ5.out; have := HJ17.out; have := HJ22.out; omega
            case rel => exact ⟨(wrap64 (x10_1 + 1)), zs, H', ⟨by have := HK1.out; have := HJ5.out; have := HJ17.out; have := HJ22.out; omega⟩, ⟨zb⟩⟩
     rw [if_neg c5] at H
     exact absurd H (by simp)
    rw [if_neg c4] at H
    exact absurd H (by simp)
   rw [if_neg c3] at H
   have c3b0 : decide (x10_1 < (l0.length : Int)) = false := decide_eq_false c3
   clear c3
   obtain rfl := Option.some.inj H
   go_wp2
   repeat (go_quiet (fail); try go_wp2)
   go_ret
   exact ⟨ze, zb⟩
set_option maxHeartbeats 8000000 in
set_option maxRecDepth 100000 in
theorem spec_l1In.calls (a0 : Int) (a1 : Int) (a2 : Int) (r : Bool) (w : World) (h : spec_l1In.f a0 a1 a2 = some r) :
 Calls Try.prog 26 #[.int .i64 a0, .int .i64 a1, .int .i64 a2] w fun e w' => e = .returned (.bool r) ∧ Drawn0 w w' := by
 have H : (if a0 ≥ a1 then (some (decide (a0 ≤ a2))) else (some false)) = some r := h
 clear h
 by_cases c4 : a0 ≥ a1
 ·rw [if_pos c4] at H
  have c4b0 : decide (a1 ≤ a0) = true := decide_eq_true c4
  clear c4
  obtain rfl := Option.some.inj H
  go_enter Try.func26, Try.ntmps26
  go_wp2
  go_ret
  exact ⟨zs, zd⟩
 rw [if_neg c4] at H
 have c4b0 : decide (a1 ≤ a0) = false := decide_eq_false c4
 clear c4
 obtain rfl := Option.some.inj H
 go_enter Try.func26, Try.ntmps26
 go_wp2
 go_ret
 exact ⟨zs, zd⟩
set_option maxHeartbeats 8000000 in
set_option maxRecDepth 100000 in
theorem spec_l1Value.calls (a0 : Int) (r : Bool) (w : World) (h : spec_l1Value.f a0 = some r) :
 Calls Try.prog 39 #[.int .i64 a0] w fun e w' => e = .returned (.bool r) ∧ Drawn0 w w' := by
 have H : ((spec_l1In.f a0 0 9999).bind fun t3 => (some t3)) = some r := h
 clear h
 replace H := Option.bind_eq_some_iff.mp H
 obtain ⟨t3, A20, H⟩ := H
 replace H : (some t3) = some r := H
 have A2 := Aside0.mk A20
 clear A20
 obtain rfl := Option.some.inj H
 go_enter Try.func39, Try.ntmps39
 go_wp2_with (first | ((with_reducible refine gate_callee (f := 26) rfl ?_); refine goesL_ (some 4) rfl rfl Try.func26 (by kernel_rfl) rfl #[.int .i64 a0, .int .i64 0, .int .i64 9999] rfl zm ?_; (with_reducible refine (spec_l1In.calls a0 0 9999 t3 _ A2.out).mono ?_); rintro e w' ⟨rfl, ⟨nd, rfl⟩⟩; refine ⟨_, rfl, ?_⟩))
 go_ret
 exact ⟨zs, zd⟩
set_option maxHeartbeats 8000000 in
set_option maxRecDepth 100000 in
theorem spec_l5Txn.calls (a0 : Int) (r : Bool) (w : World) (h : spec_l5Txn.f a0 = some r) :
 Calls Try.prog 44 #[.int .i64 a0] w fun e w' => e = .returned (.bool r) ∧ Drawn0 w w' := by
 have H : ((spec_l1In.f a0 1 999).bind fun t3 => (some t3)) = some r := h
 clear h
 replace H := Option.bind_eq_some_iff.mp H
 obtain ⟨t3, A20, H⟩ := H
 replace H : (some t3) = some r := H
 have A2 := Aside0.mk A20
 clear A20
 obtain rfl := Option.some.inj H
 go_enter Try.func44, Try.ntmps44
 go_wp2_with (first | ((with_reducible refine gate_callee (f := 26) rfl ?_); refine goesL_ (some 4) rfl rfl Try.func26 (by kernel_rfl) rfl #[.int .i64 a0, .int .i64 1, .int .i64 999] rfl zm ?_; (with_reducible refine (spec_l1In.calls a0 1 999 t3 _ A2.out).mono ?_); rintro e w' ⟨rfl, ⟨nd, rfl⟩⟩; refine ⟨_, rfl, ?_⟩))
 go_ret
 exact ⟨zs, zd⟩
set_option maxHeartbeats 8000000 in
set_option maxRecDepth 100000 in
theorem spec_l5At.calls (a0 : Int) (r : Bool) (w : World) (h : spec_l5At.f a0 = some r) :
 Calls Try.prog 45 #[.int .i64 a0] w fun e w' => e = .returned (.bool r) ∧ Drawn0 w w' := by
 have H : ((spec_l1In.f a0 1 1000000).bind fun t3 => (some t3)) = some r := h
 clear h
 replace H := Option.bind_eq_some_iff.mp H
 obtain ⟨t3, A20, H⟩ := H
 replace H : (some t3) = some r := H
 have A2 := Aside0.mk A20
 clear A20
 obtain rfl := Option.some.inj H
 go_enter Try.func45, Try.ntmps45
 go_wp2_with (first | ((with_reducible refine gate_callee (f := 26) rfl ?_); refine goesL_ (some 4) rfl rfl Try.func26 (by kernel_rfl) rfl #[.int .i64 a0, .int .i64 1, .int .i64 1000000] rfl zm ?_; (with_reducible refine (spec_l1In.calls a0 1 1000000 t3 _ A2.out).mono ?_); rintro e w' ⟨rfl, ⟨nd, rfl⟩⟩; refine ⟨_, rfl, ?_⟩))
 go_ret
 exact ⟨zs, zd⟩
end Go.Proofs.Ytkaammmkejiafaa.P
