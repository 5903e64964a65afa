import Derived.Test.YtonbnmaelepcbaaZz
import Derived.Test.YtonbnmaelepcbaaP0
import Derived.Test.YtonbnmaelepcbaaPCacdefgh3
import Derived.Test.YtonbnmaelepcbaaPCall0
import Derived.Test.YtonbnmaelepcbaaPDacdefgh0
import Derived.Test.YtonbnmaelepcbaaPDm0
import Derived.Test.YtonbnmaelepcbaaWRepsOne
import Derived.Test.YtonbnmaelepcbaaLv
import Derived.Test.YtonbnmaelepcbaaLb
import Derived.Shelf.Abstract
import Derived.Test.YtonbnmaelepcbaaLb
import Derived.Test.YtonbnmaelepcbaaLb
import Derived.Test.YtonbnmaelepcbaaLb
import Derived.Test.YtonbnmaelepcbaaLb
import Derived.Test.YtonbnmaelepcbaaLb
namespace Go.Proofs.Ytonbnmaelepcbaa.P
open Go.RowKit Go.Proofs.YtonbnmaelepcbaaW.PrintWords Go.Proofs.YtonbnmaelepcbaaW.PrintLast Go.Proofs.YtonbnmaelepcbaaW.PrintMore
attribute [local go_sem] max2_int min2_int max_two min_two max_three min_three max_four min_four   -- for this text's walks alone
set_option linter.unusedVariables false
set_option linter.unusedSimpArgs false
set_option maxHeartbeats 40000000 in
set_option maxRecDepth 100000 in
theorem impl_ChainFault.calls (k : Nat) (A0 : Option Addr) (c0 : Nat) (l0 : List (S90)) (r : Int) (w : World) (hr0 : Kd.C k90 w A0 l0.length l0) (hc0 : l0.length ≤ c0) (h : impl_ChainFault.f k l0 = some r) :
 Calls Try.prog 58 #[.slice A0 l0.length c0] w fun e w' => e = .returned (.int .i64 r) ∧ Below w.heap.size w w' := by
 have hu90 := Try.underlying90
 have HR0 := Aside0.mk hr0
 have HC0 := Aside0.mk hc0
 clear hr0 hc0
 have HB := Aside0.mk (Below.refl w.heap.size w)
 have H : (if (l0.length : Int) > 12 then (some 2) else (impl_ChainFault.l0 k l0 l0 (l0.length : Int) 0)) = some r := h
 clear h
 by_cases c2 : (l0.length : Int) > 12
 ·rw [if_pos c2] at H
  have c2b0 : decide (12 < (l0.length : Int)) = true := decide_eq_true c2
  have c2b1 : decide (12 < l0.length) = true := decide_eq_true (by omega)
  clear c2
  obtain rfl := Option.some.inj H
  go_enter Try.func58, Try.ntmps58
  go_wp2
  repeat (go_quiet (fail); try go_wp2)
  go_ret
  exact ⟨ze, zb⟩
 rw [if_neg c2] at H
 have c2b0 : decide (12 < (l0.length : Int)) = false := decide_eq_false c2
 have c2b1 : decide (12 < l0.length) = false := decide_eq_false (by omega)
 clear c2
 have H' := Aside0.mk H
 clear H
 go_enter Try.func58, Try.ntmps58
 go_wp2
 repeat (go_quiet (fail); try go_wp2)
 go_loopg [10] k (fun kq v10 w' => ∃ (x10_1 : Int), v10 = .int .i64 x10_1 ∧ Aside0 (impl_ChainFault.l0 kq l0 l0 (l0.length : Int) x10_1 = some r) ∧ Aside0 (kq ≤ k) ∧ Aside0 (Below w.heap.size w w'))
 case atStart => exact ⟨(0), zs, H', ⟨Nat.le_refl _⟩, ⟨zb⟩⟩
 case round =>
  clear H'
  try clear c2
  try clear c2b0
  try clear c2b1
  try clear p2
  obtain ⟨x10_1, rfl, HA, HK1, HB⟩ := hrel
  cases gk with
  | zero => exact absurd HA.out (by simp [impl_ChainFault.l0])
  | succ k1 =>
   have H := HA.out
   clear HA
   simp only [impl_ChainFault.l0] at H
   by_cases c3 : x10_1 < (l0.length : Int)
   ·rw [if_pos c3] at H
    have c3b0 : decide (x10_1 < (l0.length : Int)) = true := decide_eq_true c3
    clear c3
    by_cases c4 : 0 ≤ x10_1
    ·rw [if_pos c4] at H
     have c4b0 : decide (0 ≤ x10_1) = true := decide_eq_true c4
     clear c4
     by_cases c5 : x10_1 < (l0.length : Int)
     ·rw [if_pos c5] at H
      have c5b0 : decide (x10_1 < (l0.length : Int)) = true := decide_eq_true c5
      clear c5
      have HC6 := Aside0.mk H
      clear H
      have p204 : 0 ≤ (x10_1 : Int) := of_decide_eq_true za
      have q37 : x10_1 < (l0.length : Int) := of_decide_eq_true za
      obtain ⟨ad37, e204, hx37_0, hx37_1, hx37_2, hx37_3⟩ := at_T90 (Kd.C_below HR0.out HB.out) x10_1 p204 q37
      cases e204
      replace p204 := eq_true p204
      replace q37 := eq_true q37
      go_upto_region 6 with (first | ((with_reducible refine gate_dst (N := 4) rfl ?_); refine zE 4 90 #[.int .i64 0, .int .i64 0, .bool false, .int .i64 0] ?_; intro gb35 hg w7 hbox hb; have BK35 := Aside0.mk hbox; have GW35 := Aside0.mk (zh hg : w.heap.size ≤ gb35); have GE35 := GW35; replace HB := Aside0.mk (below_step zb hb); clear hb hbox hg; obtain ⟨z8_0, z8_1, z8_2, z8_3, j8_0, j8_1, j8_2, j8_3⟩ := Lv.blks4 BK35.out))
      repeat (go_quiet (first | ((with_reducible refine gate_dst (N := 4) rfl ?_); refine zE 4 90 #[.int .i64 0, .int .i64 0, .bool false, .int .i64 0] ?_; intro gb35 hg w7 hbox hb; have BK35 := Aside0.mk hbox; have GW35 := Aside0.mk (zh hg : w.heap.size ≤ gb35); have GE35 := GW35; replace HB := Aside0.mk (below_step zb hb); clear hb hbox hg; obtain ⟨z8_0, z8_1, z8_2, z8_3, j8_0, j8_1, j8_2, j8_3⟩ := Lv.blks4 BK35.out)); go_upto_region 6 with (first | ((with_reducible refine gate_dst (N := 4) rfl ?_); refine zE 4 90 #[.int .i64 0, .int .i64 0, .bool false, .int .i64 0] ?_; intro gb35 hg w7 hbox hb; have BK35 := Aside0.mk hbox; have GW35 := Aside0.mk (zh hg : w.heap.size ≤ gb35); have GE35 := GW35; replace HB := Aside0.mk (below_step zb hb); clear hb hbox hg; obtain ⟨z8_0, z8_1, z8_2, z8_3, j8_0, j8_1, j8_2, j8_3⟩ := Lv.blks4 BK35.out)))
      (try simp only [Act.put, List.setIfInBounds_toArray, List.set_cons_zero, List.set_cons_succ])
      go_cut [15] (fun v15 wc => ∃ (kq : Nat) (x15_5 : Bool), v15 = .bool x15_5 ∧ Aside0 (impl_ChainFault.j1 kq l0 x10_1 l0 (l0.length : Int) x10_1 x15_5 ((rd_T90 l0 x10_1).f0) ((rd_T90 l0 x10_1).f1) ((rd_T90 l0 x10_1).f2) ((rd_T90 l0 x10_1).f3) = some r) ∧ Aside0 (kq ≤ k1) ∧ Aside0 (wc.heap[gb35]? = some (.cells #[.int .i64 ((rd_T90 l0 x10_1).f0), .int .i64 ((rd_T90 l0 x10_1).f1), .bool ((rd_T90 l0 x10_1).f2), .int .i64 ((rd_T90 l0 x10_1).f3)] 90 (0, 0))) ∧ Aside0 (Below w.heap.size w wc))
      case first =>
       have H := HC6.out
       clear HC6
       replace H := Option.bind_eq_some_iff.mp H
       obtain ⟨t41, A90, H⟩ := H
       replace H : (if t41 = true then ((impl_isLsn.f ((rd_T90 l0 x10_1).f1)).bind fun t40 => (if t40 = true then ((impl_isValue.f ((rd_T90 l0 x10_1).f3)).bind fun t39 => (impl_ChainFault.j1 k1 l0 x10_1 l0 (l0.length : Int) x10_1 (!t39) ((rd_T90 l0 x10_1).f0) ((rd_T90 l0 x10_1).f1) ((rd_T90 l0 x10_1).f2) ((rd_T90 l0 x10_1).f3))) else (impl_ChainFault.j1 k1 l0 x10_1 l0 (l0.length : Int) x10_1 true ((rd_T90 l0 x10_1).f0) ((rd_T90 l0 x10_1).f1) ((rd_T90 l0 x10_1).f2) ((rd_T90 l0 x10_1).f3)))) else (impl_ChainFault.j1 k1 l0 x10_1 l0 (l0.length : Int) x10_1 true ((rd_T90 l0 x10_1).f0) ((rd_T90 l0 x10_1).f1) ((rd_T90 l0 x10_1).f2) ((rd_T90 l0 x10_1).f3))) = some r := H
       have A9 := Aside0.mk A90
       clear A90
       by_cases c10 : t41 = true
       ·subst c10
        have H1 : ((impl_isLsn.f ((rd_T90 l0 x10_1).f1)).bind fun t40 => (if t40 = true then ((impl_isValue.f ((rd_T90 l0 x10_1).f3)).bind fun t39 => (impl_ChainFault.j1 k1 l0 x10_1 l0 (l0.length : Int) x10_1 (!t39) ((rd_T90 l0 x10_1).f0) ((rd_T90 l0 x10_1).f1) ((rd_T90 l0 x10_1).f2) ((rd_T90 l0 x10_1).f3))) else (impl_ChainFault.j1 k1 l0 x10_1 l0 (l0.length : Int) x10_1 true ((rd_T90 l0 x10_1).f0) ((rd_T90 l0 x10_1).f1) ((rd_T90 l0 x10_1).f2) ((rd_T90 l0 x10_1).f3)))) = some r := by rw [if_pos rfl] at H; exact H
        clear H
        have H := H1
        clear H1
        replace H := Option.bind_eq_some_iff.mp H
        obtain ⟨t40, A42, H⟩ := H
        replace H : (if t40 = true then ((impl_isValue.f ((rd_T90 l0 x10_1).f3)).bind fun t39 => (impl_ChainFault.j1 k1 l0 x10_1 l0 (l0.length : Int) x10_1 (!t39) ((rd_T90 l0 x10_1).f0) ((rd_T90 l0 x10_1).f1) ((rd_T90 l0 x10_1).f2) ((rd_T90 l0 x10_1).f3))) else (impl_ChainFault.j1 k1 l0 x10_1 l0 (l0.length : Int) x10_1 true ((rd_T90 l0 x10_1).f0) ((rd_T90 l0 x10_1).f1) ((rd_T90 l0 x10_1).f2) ((rd_T90 l0 x10_1).f3))) = some r := H
        have A11 := Aside0.mk A42
        clear A42
        by_cases c12 : t40 = true
        ·subst c12
         have H1 : ((impl_isValue.f ((rd_T90 l0 x10_1).f3)).bind fun t39 => (impl_ChainFault.j1 k1 l0 x10_1 l0 (l0.length : Int) x10_1 (!t39) ((rd_T90 l0 x10_1).f0) ((rd_T90 l0 x10_1).f1) ((rd_T90 l0 x10_1).f2) ((rd_T90 l0 x10_1).f3))) = some r := by rw [if_pos rfl] at H; exact H
         clear H
         have H := H1
         clear H1
         replace H := Option.bind_eq_some_iff.mp H
         obtain ⟨t39, A43, H⟩ := H
         replace H : (impl_ChainFault.j1 k1 l0 x10_1 l0 (l0.length : Int) x10_1 (!t39) ((rd_T90 l0 x10_1).f0) ((rd_T90 l0 x10_1).f1) ((rd_T90 l0 x10_1).f2) ((rd_T90 l0 x10_1).f3)) = some r := H
         have A13 := Aside0.mk A43
         clear A43
         have H' := Aside0.mk H
         clear H
         obtain ⟨z14_0, z14_1, z14_2, z14_3, j14_0, j14_1, j14_2, j14_3⟩ := Lv.blks4 BK35.out
         go_wp2_with (first | (go_at_call 53; (with_reducible refine (impl_isTxn.calls ((rd_T90 l0 x10_1).f0) true _ A9.out).mono ?_); rintro e w' ⟨rfl, ⟨nd, rfl⟩⟩; (try first | exact ⟨rfl, _, World.drewN_drewN _ _ _⟩ | exact ⟨rfl, _, Eq.trans (World.drewN_drewN _ _ _) (congrArg (World.drewN _) (Nat.add_assoc _ _ _))⟩)) | (go_at_call 54; (with_reducible refine (impl_isLsn.calls ((rd_T90 l0 x10_1).f1) true _ A11.out).mono ?_); rintro e w' ⟨rfl, ⟨nd, rfl⟩⟩; (try first | exact ⟨rfl, _, World.drewN_drewN _ _ _⟩ | exact ⟨rfl, _, Eq.trans (World.drewN_drewN _ _ _) (congrArg (World.drewN _) (Nat.add_assoc _ _ _))⟩)) | (go_at_call 116; (with_reducible refine (impl_isValue.calls ((rd_T90 l0 x10_1).f3) t39 _ A13.out).mono ?_); rintro e w' ⟨rfl, ⟨nd, rfl⟩⟩; (try first | exact ⟨rfl, _, World.drewN_drewN _ _ _⟩ | exact ⟨rfl, _, Eq.trans (World.drewN_drewN _ _ _) (congrArg (World.drewN _) (Nat.add_assoc _ _ _))⟩)))
         repeat (go_quiet ((go_at_call 53; (with_reducible refine (impl_isTxn.calls ((rd_T90 l0 x10_1).f0) true _ A9.out).mono ?_); rintro e w' ⟨rfl, ⟨nd, rfl⟩⟩; (try first | exact ⟨rfl, _, World.drewN_drewN _ _ _⟩ | exact ⟨rfl, _, Eq.trans (World.drewN_drewN _ _ _) (congrArg (World.drewN _) (Nat.add_assoc _ _ _))⟩))); try go_wp2_with ((go_at_call 53; (with_reducible refine (impl_isTxn.calls ((rd_T90 l0 x10_1).f0) true _ A9.out).mono ?_); rintro e w' ⟨rfl, ⟨nd, rfl⟩⟩; (try first | exact ⟨rfl, _, World.drewN_drewN _ _ _⟩ | exact ⟨rfl, _, Eq.trans (World.drewN_drewN _ _ _) (congrArg (World.drewN _) (Nat.add_assoc _ _ _))⟩))))
         go_meet
         case rel => exact ⟨_, (!t39), zs, H', ⟨by have := HK1.out; first | omega | exact Nat.le_refl _⟩, ⟨by refine zQ ?_; refine blk_put (cs := #[.int .i64 ((rd_T90 l0 x10_1).f0), .int .i64 ((rd_T90 l0 x10_1).f1), .bool ((rd_T90 l0 x10_1).f2), .int .i64 0]) ?_ 3 _ rfl; refine zQ ?_; refine blk_put (cs := #[.int .i64 ((rd_T90 l0 x10_1).f0), .int .i64 ((rd_T90 l0 x10_1).f1), .bool false, .int .i64 0]) ?_ 2 _ rfl; refine zQ ?_; refine blk_put (cs := #[.int .i64 ((rd_T90 l0 x10_1).f0), .int .i64 0, .bool false, .int .i64 0]) ?_ 1 _ rfl; refine zQ ?_; refine blk_put (cs := #[.int .i64 0, .int .i64 0, .bool false, .int .i64 0]) ?_ 0 _ rfl; refine zQ ?_; exact BK35.out⟩, ⟨zb⟩⟩
        replace c12 := Bool.eq_false_iff.mpr c12
        subst c12
        have H1 : (impl_ChainFault.j1 k1 l0 x10_1 l0 (l0.length : Int) x10_1 true ((rd_T90 l0 x10_1).f0) ((rd_T90 l0 x10_1).f1) ((rd_T90 l0 x10_1).f2) ((rd_T90 l0 x10_1).f3)) = some r := by rw [if_neg (show ¬ (false = true) by decide)] at H; exact H
        clear H
        have H := H1
        clear H1
        have H' := Aside0.mk H
        clear H
        obtain ⟨z15_0, z15_1, z15_2, z15_3, j15_0, j15_1, j15_2, j15_3⟩ := Lv.blks4 BK35.out
        go_wp2_with (first | (go_at_call 53; (with_reducible refine (impl_isTxn.calls ((rd_T90 l0 x10_1).f0) true _ A9.out).mono ?_); rintro e w' ⟨rfl, ⟨nd, rfl⟩⟩; (try first | exact ⟨rfl, _, World.drewN_drewN _ _ _⟩ | exact ⟨rfl, _, Eq.trans (World.drewN_drewN _ _ _) (congrArg (World.drewN _) (Nat.add_assoc _ _ _))⟩)) | (go_at_call 54; (with_reducible refine (impl_isLsn.calls ((rd_T90 l0 x10_1).f1) false _ A11.out).mono ?_); rintro e w' ⟨rfl, ⟨nd, rfl⟩⟩; (try first | exact ⟨rfl, _, World.drewN_drewN _ _ _⟩ | exact ⟨rfl, _, Eq.trans (World.drewN_drewN _ _ _) (congrArg (World.drewN _) (Nat.add_assoc _ _ _))⟩)))
        repeat (go_quiet ((go_at_call 53; (with_reducible refine (impl_isTxn.calls ((rd_T90 l0 x10_1).f0) true _ A9.out).mono ?_); rintro e w' ⟨rfl, ⟨nd, rfl⟩⟩; (try first | exact ⟨rfl, _, World.drewN_drewN _ _ _⟩ | exact ⟨rfl, _, Eq.trans (World.drewN_drewN _ _ _) (congrArg (World.drewN _) (Nat.add_assoc _ _ _))⟩))); try go_wp2_with ((go_at_call 53; (with_reducible refine (impl_isTxn.calls ((rd_T90 l0 x10_1).f0) true _ A9.out).mono ?_); rintro e w' ⟨rfl, ⟨nd, rfl⟩⟩; (try first | exact ⟨rfl, _, World.drewN_drewN _ _ _⟩ | exact ⟨rfl, _, Eq.trans (World.drewN_drewN _ _ _) (congrArg (World.drewN _) (Nat.add_assoc _ _ _))⟩))))
        go_meet
        case rel => exact ⟨_, (true), zs, H', ⟨by have := HK1.out; first | omega | exact Nat.le_refl _⟩, ⟨by refine zQ ?_; refine blk_put (cs := #[.int .i64 ((rd_T90 l0 x10_1).f0), .int .i64 ((rd_T90 l0 x10_1).f1), .bool ((rd_T90 l0 x10_1).f2), .int .i64 0]) ?_ 3 _ rfl; refine zQ ?_; refine blk_put (cs := #[.int .i64 ((rd_T90 l0 x10_1).f0), .int .i64 ((rd_T90 l0 x10_1).f1), .bool false, .int .i64 0]) ?_ 2 _ rfl; refine zQ ?_; refine blk_put (cs := #[.int .i64 ((rd_T90 l0 x10_1).f0), .int .i64 0, .bool false, .int .i64 0]) ?_ 1 _ rfl; refine zQ ?_; refine blk_put (cs := #[.int .i64 0, .int .i64 0, .bool false, .int .i64 0]) ?_ 0 _ rfl; refine zQ ?_; exact BK35.out⟩, ⟨zb⟩⟩
       replace c10 := Bool.eq_false_iff.mpr c10
       subst c10
       have H1 : (impl_ChainFault.j1 k1 l0 x10_1 l0 (l0.length : Int) x10_1 true ((rd_T90 l0 x10_1).f0) ((rd_T90 l0 x10_1).f1) ((rd_T90 l0 x10_1).f2) ((rd_T90 l0 x10_1).f3)) = some r := by rw [if_neg (show ¬ (false = true) by decide)] at H; exact H
       clear H
       have H := H1
       clear H1
       have H' := Aside0.mk H
       clear H
       obtain ⟨z16_0, z16_1, z16_2, z16_3, j16_0, j16_1, j16_2, j16_3⟩ := Lv.blks4 BK35.out
       go_wp2_with (first | (go_at_call 53; (with_reducible refine (impl_isTxn.calls ((rd_T90 l0 x10_1).f0) false _ A9.out).mono ?_); rintro e w' ⟨rfl, ⟨nd, rfl⟩⟩; (try first | exact ⟨rfl, _, World.drewN_drewN _ _ _⟩ | exact ⟨rfl, _, Eq.trans (World.drewN_drewN _ _ _) (congrArg (World.drewN _) (Nat.add_assoc _ _ _))⟩)))
       repeat (go_quiet (first | (go_at_call 53; (with_reducible refine (impl_isTxn.calls ((rd_T90 l0 x10_1).f0) false _ A9.out).mono ?_); rintro e w' ⟨rfl, ⟨nd, rfl⟩⟩; (try first | exact ⟨rfl, _, World.drewN_drewN _ _ _⟩ | exact ⟨rfl, _, Eq.trans (World.drewN_drewN _ _ _) (congrArg (World.drewN _) (Nat.add_assoc _ _ _))⟩))); try go_wp2_with (first | (go_at_call 53; (with_reducible refine (impl_isTxn.calls ((rd_T90 l0 x10_1).f0) false _ A9.out).mono ?_); rintro e w' ⟨rfl, ⟨nd, rfl⟩⟩; (try first | exact ⟨rfl, _, World.drewN_drewN _ _ _⟩ | exact ⟨rfl, _, Eq.trans (World.drewN_drewN _ _ _) (congrArg (World.drewN _) (Nat.add_assoc _ _ _))⟩))))
       go_meet
       case rel => exact ⟨_, (true), zs, H', ⟨by have := HK1.out; first | omega | exact Nat.le_refl _⟩, ⟨by refine zQ ?_; refine blk_put (cs := #[.int .i64 ((rd_T90 l0 x10_1).f0), .int .i64 ((rd_T90 l0 x10_1).f1), .bool ((rd_T90 l0 x10_1).f2), .int .i64 0]) ?_ 3 _ rfl; refine zQ ?_; refine blk_put (cs := #[.int .i64 ((rd_T90 l0 x10_1).f0), .int .i64 ((rd_T90 l0 x10_1).f1), .bool false, .int .i64 0]) ?_ 2 _ rfl; refine zQ ?_; refine blk_put (cs := #[.int .i64 ((rd_T90 l0 x10_1).f0), .int .i64 0, .bool false, .int .i64 0]) ?_ 1 _ rfl; refine zQ ?_; refine blk_put (cs := #[.int .i64 0, .int .i64 0, .bool false, .int .i64 0]) ?_ 0 _ rfl; refine zQ ?_; exact BK35.out⟩, ⟨zb⟩⟩
      case rest =>
       clear HC6
       try clear c1
       try clear c2
       try clear c2b0
       try clear c2b1
       try clear p2
       try clear q2
       try clear hx2
       try clear c3
       try clear c3b0
       try clear c4
       try clear c4b0
       try clear c5
       try clear c5b0
       try clear c10
       try clear c12
       try clear z14_0 z14_1 z14_2 z14_3
       try clear z15_0 z15_1 z15_2 z15_3
       try clear z16_0 z16_1 z16_2 z16_3
       try clear z8_0 z8_1 z8_2 z8_3
       try clear j14_0 j14_1 j14_2 j14_3
       try clear j15_0 j15_1 j15_2 j15_3
       try clear j16_0 j16_1 j16_2 j16_3
       try clear j8_0 j8_1 j8_2 j8_3
       try clear hx37_0
       try clear hx37_1
       try clear hx37_2
       try clear hx37_3
       try clear p2
       try clear p204
       try clear q37
       obtain ⟨kq, x15_5, rfl, HA, HJ5, BK35, HB⟩ := hcut
       cases kq with
       | zero => exact absurd HA.out (by simp [impl_ChainFault.j1])
       | succ kj5 =>
        have H := HA.out
        clear HA
        simp only [impl_ChainFault.j1] at H
        by_cases c17 : x15_5 = true
        ·subst c17
         have H1 : (some 3) = some r := by rw [if_pos rfl] at H; exact H
         clear H
         have H := H1
         clear H1
         obtain rfl := Option.some.inj H
         go_wp2
         repeat (go_quiet (fail); try go_wp2)
         go_ret
         exact ⟨ze, zb⟩
        replace c17 := Bool.eq_false_iff.mpr c17
        subst c17
        have H1 : (if ((rd_T90 l0 x10_1).f2) = true then (impl_ChainFault.j2 kj5 l0 x10_1 l0 (l0.length : Int) x10_1 (((rd_T90 l0 x10_1).f3) != 0) ((rd_T90 l0 x10_1).f0) ((rd_T90 l0 x10_1).f1) ((rd_T90 l0 x10_1).f2) ((rd_T90 l0 x10_1).f3)) else (impl_ChainFault.j2 kj5 l0 x10_1 l0 (l0.length : Int) x10_1 false ((rd_T90 l0 x10_1).f0) ((rd_T90 l0 x10_1).f1) ((rd_T90 l0 x10_1).f2) ((rd_T90 l0 x10_1).f3))) = some r := by rw [if_neg (show ¬ (false = true) by decide)] at H; exact H
        clear H
        have H := H1
        clear H1
        have HC18 := Aside0.mk H
        clear H
        go_upto_region 8 with (fail)
        repeat (go_quiet (fail); go_upto_region 8 with (fail))
        go_cut [32] (fun v32 wc => ∃ (kq : Nat) (x32_17 : Bool), v32 = .bool x32_17 ∧ Aside0 (impl_ChainFault.j2 kq l0 x10_1 l0 (l0.length : Int) x10_1 x32_17 ((rd_T90 l0 x10_1).f0) ((rd_T90 l0 x10_1).f1) ((rd_T90 l0 x10_1).f2) ((rd_T90 l0 x10_1).f3) = some r) ∧ Aside0 (kq ≤ kj5) ∧ Aside0 (wc.heap[gb35]? = some (.cells #[.int .i64 ((rd_T90 l0 x10_1).f0), .int .i64 ((rd_T90 l0 x10_1).f1), .bool ((rd_T90 l0 x10_1).f2), .int .i64 ((rd_T90 l0 x10_1).f3)] 90 (0, 0))) ∧ Aside0 (Below w.heap.size w wc))
        case first =>
         have H := HC18.out
         clear HC18
         by_cases c19 : ((rd_T90 l0 x10_1).f2) = true
         ·rw [if_pos c19] at H
          have c19b0 : ((rd_T90 l0 x10_1).f2) = true := c19
          clear c19
          (first | rw [c19b0] | (simp only [i64_w, i32_w]; rw [c19b0]) | skip)
          have H' := Aside0.mk H
          clear H
          obtain ⟨z20_0, z20_1, z20_2, z20_3, j20_0, j20_1, j20_2, j20_3⟩ := Lv.blks4 BK35.out
          go_wp2
          repeat (go_quiet (fail); try go_wp2)
          go_meet
          case rel => exact ⟨_, ((((rd_T90 l0 x10_1).f3) != 0)), zs, H', ⟨by have := HK1.out; have := HJ5.out; first | omega | exact Nat.le_refl _⟩, ⟨zq BK35⟩, ⟨zb⟩⟩
         rw [if_neg c19] at H
         have c19b0 : ((rd_T90 l0 x10_1).f2) = false := by simpa using c19
         clear c19
         (first | rw [c19b0] | (simp only [i64_w, i32_w]; rw [c19b0]) | skip)
         have H' := Aside0.mk H
         clear H
         obtain ⟨z21_0, z21_1, z21_2, z21_3, j21_0, j21_1, j21_2, j21_3⟩ := Lv.blks4 BK35.out
         go_wp2
         repeat (go_quiet (fail); try go_wp2)
         go_meet
         case rel => exact ⟨_, (false), zs, H', ⟨by have := HK1.out; have := HJ5.out; first | omega | exact Nat.le_refl _⟩, ⟨zq BK35⟩, ⟨zb⟩⟩
        case rest =>
         clear HC18
         try clear c1
         try clear c2
         try clear c2b0
         try clear c2b1
         try clear p2
         try clear q2
         try clear hx2
         try clear c3
         try clear c3b0
         try clear c4
         try clear c4b0
         try clear c5
         try clear c5b0
         try clear c10
         try clear c12
         try clear c17
         try clear c19
         try clear c19b0
         try clear p20
         try clear q20
         try clear hx20
         try clear z14_0 z14_1 z14_2 z14_3
         try clear z15_0 z15_1 z15_2 z15_3
         try clear z16_0 z16_1 z16_2 z16_3
         try clear z20_0 z20_1 z20_2 z20_3
         try clear z21_0 z21_1 z21_2 z21_3
         try clear z8_0 z8_1 z8_2 z8_3
         try clear j14_0 j14_1 j14_2 j14_3
         try clear j15_0 j15_1 j15_2 j15_3
         try clear j16_0 j16_1 j16_2 j16_3
         try clear j20_0 j20_1 j20_2 j20_3
         try clear j21_0 j21_1 j21_2 j21_3
         try clear j8_0 j8_1 j8_2 j8_3
         try clear hx37_0
         try clear hx37_1
         try clear hx37_2
         try clear hx37_3
         try clear p2
         try clear p204
         try clear q2
         try clear q37
         obtain ⟨kq, x32_17, rfl, HA, HJ17, BK35, HB⟩ := hcut
         cases kq with
         | zero => exact absurd HA.out (by simp [impl_ChainFault.j2])
         | succ kj17 =>
          have H := HA.out
          clear HA
          simp only [impl_ChainFault.j2] at H
          by_cases c22 : x32_17 = true
          ·subst c22
           have H1 : (some 1) = some r := by rw [if_pos rfl] at H; exact H
           clear H
           have H := H1
           clear H1
           obtain rfl := Option.some.inj H
           go_wp2
           repeat (go_quiet (fail); try go_wp2)
           go_ret
           exact ⟨ze, zb⟩
          replace c22 := Bool.eq_false_iff.mpr c22
          subst c22
          have H1 : (if ((rd_T90 l0 x10_1).f1) = 0 then (impl_ChainFault.j3 kj17 l0 x10_1 l0 (l0.length : Int) x10_1 (decide (x10_1 > 0)) ((rd_T90 l0 x10_1).f0) ((rd_T90 l0 x10_1).f1) ((rd_T90 l0 x10_1).f2) ((rd_T90 l0 x10_1).f3)) else (impl_ChainFault.j3 kj17 l0 x10_1 l0 (l0.length : Int) x10_1 false ((rd_T90 l0 x10_1).f0) ((rd_T90 l0 x10_1).f1) ((rd_T90 l0 x10_1).f2) ((rd_T90 l0 x10_1).f3))) = some r := by rw [if_neg (show ¬ (false = true) by decide)] at H; exact H
          clear H
          have H := H1
          clear H1
          have HC23 := Aside0.mk H
          clear H
          go_upto_region 9 with (fail)
          repeat (go_quiet (fail); go_upto_region 9 with (fail))
          go_cut [32] (fun v32 wc => ∃ (kq : Nat) (x32_22 : Bool), v32 = .bool x32_22 ∧ Aside0 (impl_ChainFault.j3 kq l0 x10_1 l0 (l0.length : Int) x10_1 x32_22 ((rd_T90 l0 x10_1).f0) ((rd_T90 l0 x10_1).f1) ((rd_T90 l0 x10_1).f2) ((rd_T90 l0 x10_1).f3) = some r) ∧ Aside0 (kq ≤ kj17) ∧ Aside0 (wc.heap[gb35]? = some (.cells #[.int .i64 ((rd_T90 l0 x10_1).f0), .int .i64 ((rd_T90 l0 x10_1).f1), .bool ((rd_T90 l0 x10_1).f2), .int .i64 ((rd_T90 l0 x10_1).f3)] 90 (0, 0))) ∧ Aside0 (Below w.heap.size w wc))
          case first =>
           have H := HC23.out
           clear HC23
           by_cases c24 : ((rd_T90 l0 x10_1).f1) = 0
           ·rw [if_pos c24] at H
            have c24b0 : (((rd_T90 l0 x10_1).f1) == 0) = true := beq_iff_eq.mpr c24
            have c24b1 : (((rd_T90 l0 x10_1).f1) != 0) = false := bne_eq_false_iff_eq.mpr c24
            clear c24
            (first | rw [c24b0] | (simp only [i64_w, i32_w]; rw [c24b0]) | skip)
            have H' := Aside0.mk H
            clear H
            obtain ⟨z25_0, z25_1, z25_2, z25_3, j25_0, j25_1, j25_2, j25_3⟩ := Lv.blks4 BK35.out
            go_wp2
            repeat (go_quiet (fail); try go_wp2)
            go_meet
            case rel => exact ⟨_, (decide (x10_1 > 0)), zs, H', ⟨by have := HK1.out; have := HJ5.out; have := HJ17.out; first | omega | exact Nat.le_refl _⟩, ⟨zq BK35⟩, ⟨zb⟩⟩
           rw [if_neg c24] at H
           have c24b0 : (((rd_T90 l0 x10_1).f1) == 0) = false := beq_eq_false_iff_ne.mpr c24
           have c24b1 : (((rd_T90 l0 x10_1).f1) != 0) = true := bne_iff_ne.mpr c24
           (first | rw [c24b0] | (simp only [i64_w, i32_w]; rw [c24b0]) | skip)
           have H' := Aside0.mk H
           clear H
           obtain ⟨z26_0, z26_1, z26_2, z26_3, j26_0, j26_1, j26_2, j26_3⟩ := Lv.blks4 BK35.out
           go_wp2
           repeat (go_quiet (fail); try go_wp2)
           go_meet
           case rel => exact ⟨_, (false), zs, H', ⟨by have := HK1.out; have := HJ5.out; have := HJ17.out; first | omega | exact Nat.le_refl _⟩, ⟨zq BK35⟩, ⟨zb⟩⟩
          case rest =>
           clear HC23
           try clear c1
           try clear c2
           try clear c2b0
           try clear c2b1
           try clear p2
           try clear q2
           try clear hx2
           try clear c3
           try clear c3b0
           try clear c4
           try clear c4b0
           try clear c5
           try clear c5b0
           try clear c10
           try clear c12
           try clear c17
           try clear c19
           try clear c19b0
           try clear p20
           try clear q20
           try clear hx20
           try clear c22
           try clear c24
           try clear c24b0
           try clear c24b1
           try clear z14_0 z14_1 z14_2 z14_3
           try clear z15_0 z15_1 z15_2 z15_3
           try clear z16_0 z16_1 z16_2 z16_3
           try clear z20_0 z20_1 z20_2 z20_3
           try clear z21_0 z21_1 z21_2 z21_3
           try clear z25_0 z25_1 z25_2 z25_3
           try clear z26_0 z26_1 z26_2 z26_3
           try clear z8_0 z8_1 z8_2 z8_3
           try clear j14_0 j14_1 j14_2 j14_3
           try clear j15_0 j15_1 j15_2 j15_3
           try clear j16_0 j16_1 j16_2 j16_3
           try clear j20_0 j20_1 j20_2 j20_3
           try clear j21_0 j21_1 j21_2 j21_3
           try clear j25_0 j25_1 j25_2 j25_3
           try clear j26_0 j26_1 j26_2 j26_3
           try clear j8_0 j8_1 j8_2 j8_3
           try clear hx37_0
           try clear hx37_1
           try clear hx37_2
           try clear hx37_3
           try clear p2
           try clear p20
           try clear p204
           try clear q2
           try clear q20
           try clear q37
           obtain ⟨kq, x32_22, rfl, HA, HJ22, BK35, HB⟩ := hcut
           cases kq with
           | zero => exact absurd HA.out (by simp [impl_ChainFault.j3])
           | succ kj22 =>
            have H := HA.out
            clear HA
            simp only [impl_ChainFault.j3] at H
            by_cases c27 : x32_22 = true
            ·subst c27
             have H1 : (some 1) = some r := by rw [if_pos rfl] at H; exact H
             clear H
             have H := H1
             clear H1
             obtain rfl := Option.some.inj H
             go_wp2
             repeat (go_quiet (fail); try go_wp2)
             go_ret
             exact ⟨ze, zb⟩
            replace c27 := Bool.eq_false_iff.mpr c27
            subst c27
            have H1 : (if x10_1 > 0 then (if 0 ≤ (wrap64 (x10_1 - 1)) then (if (wrap64 (x10_1 - 1)) < (l0.length : Int) then (if ((rd_T90 l0 (wrap64 (x10_1 - 1))).f1) = 0 then (impl_ChainFault.l0 kj22 l0 l0 (l0.length : Int) (wrap64 (x10_1 + 1))) else (if ((rd_T90 l0 x10_1).f1) ≥ ((rd_T90 l0 (wrap64 (x10_1 - 1))).f1) then (some 1) else (impl_ChainFault.l0 kj22 l0 l0 (l0.length : Int) (wrap64 (x10_1 + 1))))) else (none)) else (none)) else (impl_ChainFault.l0 kj22 l0 l0 (l0.length : Int) (wrap64 (x10_1 + 1)))) = some r := by rw [if_neg (show ¬ (false = true) by decide)] at H; exact H
            clear H
            have H := H1
            clear H1
            by_cases c28 : x10_1 > 0
            ·rw [if_pos c28] at H
             have c28b0 : decide (0 < x10_1) = true := decide_eq_true c28
             clear c28
             obtain ⟨ji29, hji29⟩ : ∃ j_ : Int, (wrap64 (x10_1 - 1)) = j_ := ⟨_, rfl⟩
             replace H : (if 0 ≤ (ji29) then (if (ji29) < (l0.length : Int) then (if ((rd_T90 l0 (ji29)).f1) = 0 then (impl_ChainFault.l0 kj22 l0 l0 (l0.length : Int) (wrap64 (x10_1 + 1))) else (if ((rd_T90 l0 x10_1).f1) ≥ ((rd_T90 l0 (ji29)).f1) then (some 1) else (impl_ChainFault.l0 kj22 l0 l0 (l0.length : Int) (wrap64 (x10_1 + 1))))) else (none)) else (none)) = some r := by first | (rw [hji29] at H; exact H) | (simp only [hji29] at H ⊢; exact H)
             have hji29w : (IntKind.i64.wrap (x10_1 - 1)) = ji29 := (i64_w _).trans hji29
             by_cases c30 : 0 ≤ (ji29)
             ·rw [if_pos c30] at H
              have c30b0 : decide (0 ≤ (ji29)) = true := decide_eq_true c30
              clear c30
              by_cases c31 : (ji29) < (l0.length : Int)
              ·rw [if_pos c31] at H
               have c31b0 : decide ((ji29) < (l0.length : Int)) = true := decide_eq_true c31
               clear c31
               by_cases c32 : ((rd_T90 l0 (ji29)).f1) = 0
               ·rw [if_pos c32] at H
                have c32b0 : (((rd_T90 l0 (ji29)).f1) == 0) = true := beq_iff_eq.mpr c32
                have c32b1 : (((rd_T90 l0 (ji29)).f1) != 0) = false := bne_eq_false_iff_eq.mpr c32
                clear c32
                have H' := Aside0.mk H
                clear H
                have p209 : 0 ≤ ((ji29) : Int) := of_decide_eq_true za
                have q36 : (ji29) < (l0.length : Int) := of_decide_eq_true za
                obtain ⟨ad36, e209, hx36_0, hx36_1, hx36_2, hx36_3⟩ := at_T90 HR0.out (ji29) p209 q36
                obtain rfl : ad37 = ad36 := (by injection e209)
                replace hx36_0 := zx HB hx36_0
                replace hx36_1 := zx HB hx36_1
                replace hx36_2 := zx HB hx36_2
                replace hx36_3 := zx HB hx36_3
                replace p209 := eq_true p209
                replace q36 := eq_true q36
                go_wp2
                repeat (go_quiet (fail); try go_wp2)
                go_roundg kj22
                case measure => have := HK1.out; have := HJ5.out; have := HJ17.out; have := HJ22.out; omega
                case rel => exact ⟨(wrap64 (x10_1 + 1)), zs, H', ⟨by have := HK1.out; have := HJ5.out; have := HJ17.out; have := HJ22.out; omega⟩, ⟨zb⟩⟩
               rw [if_neg c32] at H
               have c32b0 : (((rd_T90 l0 (ji29)).f1) == 0) = false := beq_eq_false_iff_ne.mpr c32
               have c32b1 : (((rd_T90 l0 (ji29)).f1) != 0) = true := bne_iff_ne.mpr c32
               have HX_ := Aside0.mk H
               clear H
               have p209 : 0 ≤ ((ji29) : Int) := of_decide_eq_true za
               have q36 : (ji29) < (l0.length : Int) := of_decide_eq_true za
               obtain ⟨ad36, e209, hx36_0, hx36_1, hx36_2, hx36_3⟩ := at_T90 HR0.out (ji29) p209 q36
               obtain rfl : ad37 = ad36 := (by injection e209)
               replace hx36_0 := zx HB hx36_0
               replace hx36_1 := zx HB hx36_1
               replace hx36_2 := zx HB hx36_2
               replace hx36_3 := zx HB hx36_3
               replace p209 := eq_true p209
               replace q36 := eq_true q36
               obtain ⟨z34_0, z34_1, z34_2, z34_3, j34_0, j34_1, j34_2, j34_3⟩ := Lv.blks4 BK35.out
               have p210 : 0 ≤ ((ji29) : Int) := of_decide_eq_true za
               have q38 : (ji29) < (l0.length : Int) := of_decide_eq_true za
               obtain ⟨ad38, e210, hx38_0, hx38_1, hx38_2, hx38_3⟩ := at_T90 HR0.out (ji29) p210 q38
               obtain rfl : ad37 = ad38 := (by injection e210)
               replace hx38_0 := zx HB hx38_0
               replace hx38_1 := zx HB hx38_1
               replace hx38_2 := zx HB hx38_2
               replace hx38_3 := zx HB hx38_3
               replace p210 := eq_true p210
               replace q38 := eq_true q38
               have H := HX_.out
               clear HX_
               by_cases c33 : ((rd_T90 l0 x10_1).f1) ≥ ((rd_T90 l0 (ji29)).f1)
               ·rw [if_pos c33] at H
                have c33b0 : decide (((rd_T90 l0 (ji29)).f1) ≤ ((rd_T90 l0 x10_1).f1)) = true := decide_eq_true c33
                clear c33
                obtain rfl := Option.some.inj H
                go_wp2
                repeat (go_quiet (fail); try go_wp2)
                go_ret
                exact ⟨by first | rfl | (simp [errW_none, errW_some] <;> rfl) | (simp only [← hji29]; first | rfl | (simp [errW_none, errW_some] <;> rfl)) | (simp [*, errW_none, errW_some] <;> rfl), zb⟩
               rw [if_neg c33] at H
               have c33b0 : decide (((rd_T90 l0 (ji29)).f1) ≤ ((rd_T90 l0 x10_1).f1)) = false := decide_eq_false c33
               clear c33
               have H' := Aside0.mk H
               clear H
               go_wp2
               repeat (go_quiet (fail); try go_wp2)
               go_roundg kj22
               case measure => have := HK1.out; have := HJ5.out; have := HJ17.out; have := HJ22.out; omega
               case rel => exact ⟨(wrap64 (x10_1 + 1)), zs, H', ⟨by have := HK1.out; have := HJ5.out; have := HJ17.out; have := HJ22.out; omega⟩, ⟨zb⟩⟩
              rw [if_neg c31] at H
              exact absurd H (by simp)
             rw [if_neg c30] at H
             exact absurd H (by simp)
            rw [if_neg c28] at H
            have c28b0 : decide (0 < x10_1) = false := decide_eq_false c28
            clear c28
            have H' := Aside0.mk H
            clear H
            go_wp2
            repeat (go_quiet (fail); try go_wp2)
            go_roundg kj22
            case measure => have := HK1.out; have := HJ5.out; have := HJ17.out; have := HJ22.out; omega
            case rel => exact ⟨(wrap64 (x10_1 + 1)), zs, H', ⟨by have := HK1.out; have := HJ5.out; have := HJ17.out; have := HJ22.out; omega⟩, ⟨zb⟩⟩
     rw [if_neg c5] at H
     exact absurd H (by simp)
    rw [if_neg c4] at H
    exact absurd H (by simp)
   rw [if_neg c3] at H
   have c3b0 : decide (x10_1 < (l0.length : Int)) = false := decide_eq_false c3
   clear c3
   obtain rfl := Option.some.inj H
   go_wp2
   repeat (go_quiet (fail); try go_wp2)
   go_ret
   exact ⟨ze, zb⟩
-- PROOF --
set_option maxHeartbeats 8000000 in
set_option maxRecDepth 100000 in
theorem slices_IndexFunc_impl_Version.calls (g : Nat) (lb : Array Value) (p : S90 → Bool) (A0 : Option Addr) (c0 : Nat) (l0 : List (S90)) (w : World) (hr0 : Kd.C k90 w A0 l0.length l0)
 (hp : ∀ (W : World) (x : S90), x ∈ l0 → Below w.heap.size w W → Calls Try.prog g (#[.agg #[.int .i64 x.f0, .int .i64 x.f1, .bool x.f2, .int .i64 x.f3]] ++ lb) W fun e w' => e = .returned (.bool (p x)) ∧ Below W.heap.size W w')
 (eg : ∀ args w, (callFunc g args).run Try.prog w = .ok (.enter g args) w) :
 Calls Try.prog 117 #[.slice A0 l0.length c0, .func (.func g) #[] lb] w fun e w' => e = .returned (.int .i64 (Go.Proofs.Ytonbnmaelepcbaa.Lb.idx p l0)) ∧ Below w.heap.size w w' := by
 have hu90 := Try.underlying90
 have hn := hr0.2.1
 have HR0 := Aside0.mk hr0
 clear hr0
 go_enter Try.func117, Try.ntmps117
 go_wp2
 go_loopg [5, 8] (l0.length + 1) (fun gg _ s8 wr => ∃ x : Int, 0 ≤ x ∧ x ≤ (l0.length : Int) ∧ Aside0 (l0.length + 1 - x.toNat ≤ gg) ∧ s8 = .int .i64 x ∧ Aside0 (Below w.heap.size w wr) ∧ Aside0 (∀ j : Nat, j < x.toNat → p (l0.getD j z90) = false))
 case atStart => exact ⟨0, by omega, by omega, ⟨by simp⟩, rfl, ⟨Below.refl _ _⟩, ⟨fun j hj => by simp at hj⟩⟩
 case round =>
  obtain ⟨x, hx0, hx1, HG, rfl, HB, HA⟩ := hrel
  by_cases c3 : x < (l0.length : Int)
  ·have c3b0 : decide (x < (l0.length : Int)) = true := decide_eq_true c3
   have c4b0 : decide (0 ≤ x) = true := decide_eq_true hx0
   obtain ⟨ad, e1, q0, q1, q2, q3⟩ := at_T90 HR0.out x hx0 c3
   cases e1
   replace q0 := zx HB q0
   replace q1 := zx HB q1
   replace q2 := zx HB q2
   replace q3 := zx HB q3
   have hx : x.toNat < l0.length := by omega
   have hrd : rd_T90 l0 x = l0.getD x.toNat z90 := rfl
   have hcall := hp wr (rd_T90 l0 x) (by rw [hrd, List.getD_eq_getElem?_getD, List.getElem?_eq_getElem hx]; exact List.getElem_mem hx) HB.out
   clear hp hrd
   cases hq : p (rd_T90 l0 x) with
   | true =>
    rw [hq] at hcall
    have HQ := Aside0.mk hq
    clear hq
    go_wp2_with (go_at_fn g; refine hcall.mono ?_; rintro e w' ⟨rfl, hb'⟩)
    go_ret
    refine ⟨?_, HB.out.trans (hb'.mono HB.out.size)⟩
    unfold Go.Proofs.Ytonbnmaelepcbaa.Lb.idx
    rw [Go.Proofs.Ytonbnmaelepcbaa.Lb.idx_hit p z90 l0 x.toNat 0 hx HA.out HQ.out]
    rw [show (0 : Int) + (x.toNat : Int) = x by omega]
    rfl
   | false =>
    rw [hq] at hcall
    have HQ := Aside0.mk hq
    clear hq
    go_wp2_with (go_at_fn g; refine hcall.mono ?_; rintro e w' ⟨rfl, hb'⟩)
    go_roundg (l0.length + 1 - (x + 1).toNat)
    case measure => have := HG.out; omega
    case rel => exact ⟨x + 1, by omega, by omega, ⟨by omega⟩, by first | rfl | go_num, ⟨HB.out.trans (hb'.mono HB.out.size)⟩, ⟨fun j hj => by
     by_cases e : j = x.toNat
     ·subst e; exact HQ.out
     exact HA.out j (by omega)⟩⟩
  have hxx : x = (l0.length : Int) := by omega
  have c3b0 : decide (x < (l0.length : Int)) = false := decide_eq_false c3
  have hm : Go.Proofs.Ytonbnmaelepcbaa.Lb.idx p l0 = -1 := by
   unfold Go.Proofs.Ytonbnmaelepcbaa.Lb.idx
   exact Go.Proofs.Ytonbnmaelepcbaa.Lb.idx_miss p z90 l0 0 (fun j hj => HA.out j (by omega))
  have HM := Aside0.mk hm
  clear hm
  have HX := Aside0.mk hxx
  clear hxx
  go_wp2
  go_ret
  exact ⟨by rw [HM.out]; rfl, HB.out⟩
-- PROOF --
set_option maxHeartbeats 8000000 in
set_option maxRecDepth 100000 in
theorem slices_ContainsFunc_impl_Version.calls (g : Nat) (lb : Array Value) (p : S90 → Bool) (A0 : Option Addr) (c0 : Nat) (l0 : List (S90)) (w : World) (hr0 : Kd.C k90 w A0 l0.length l0)
 (hp : ∀ (W : World) (x : S90), x ∈ l0 → Below w.heap.size w W → Calls Try.prog g (#[.agg #[.int .i64 x.f0, .int .i64 x.f1, .bool x.f2, .int .i64 x.f3]] ++ lb) W fun e w' => e = .returned (.bool (p x)) ∧ Below W.heap.size W w')
 (eg : ∀ args w, (callFunc g args).run Try.prog w = .ok (.enter g args) w) :
 Calls Try.prog 59 #[.slice A0 l0.length c0, .func (.func g) #[] lb] w fun e w' => e = .returned (.bool (l0.any p)) ∧ Below w.heap.size w w' := by
 have hcon := slices_IndexFunc_impl_Version.calls g lb p A0 c0 l0 w hr0 hp eg
 rw [← Go.Proofs.Ytonbnmaelepcbaa.Lb.idx_any p l0]
 clear hr0 hp
 generalize Go.Proofs.Ytonbnmaelepcbaa.Lb.idx p l0 = r at hcon ⊢
 have HC := Aside0.mk hcon
 clear hcon
 go_enter Try.func59, Try.ntmps59
 go_wp2_with (go_at_call 117; refine HC.out.mono ?_; rintro e w' ⟨rfl, hb'⟩)
 go_ret
 exact ⟨rfl, hb'⟩
-- PROOF --
set_option maxHeartbeats 8000000 in
set_option maxRecDepth 100000 in
theorem slices_IndexFunc_impl_Txn.calls (g : Nat) (lb : Array Value) (p : S83 → Bool) (A0 : Option Addr) (c0 : Nat) (l0 : List (S83)) (w : World) (hr0 : Kd.C k83 w A0 l0.length l0)
 (hp : ∀ (W : World) (x : S83) (A_4 : Option Addr) (c_4 : Nat), x ∈ l0 → Below w.heap.size w W → x.f4.length ≤ c_4 → Kd.C k96 W A_4 x.f4.length x.f4 → Calls Try.prog g (#[.agg #[.int .i64 x.f0, .int .i64 x.f1, .int .i64 x.f2, .int .i64 x.f3, .slice A_4 x.f4.length c_4]] ++ lb) W fun e w' => e = .returned (.bool (p x)) ∧ Below W.heap.size W w')
 (eg : ∀ args w, (callFunc g args).run Try.prog w = .ok (.enter g args) w) :
 Calls Try.prog 118 #[.slice A0 l0.length c0, .func (.func g) #[] lb] w fun e w' => e = .returned (.int .i64 (Go.Proofs.Ytonbnmaelepcbaa.Lb.idx p l0)) ∧ Below w.heap.size w w' := by
 have hu83 := Try.underlying83
 have hn := hr0.2.1
 have HR0 := Aside0.mk hr0
 clear hr0
 go_enter Try.func118, Try.ntmps118
 go_wp2
 go_loopg [5, 8] (l0.length + 1) (fun gg _ s8 wr => ∃ x : Int, 0 ≤ x ∧ x ≤ (l0.length : Int) ∧ Aside0 (l0.length + 1 - x.toNat ≤ gg) ∧ s8 = .int .i64 x ∧ Aside0 (Below w.heap.size w wr) ∧ Aside0 (∀ j : Nat, j < x.toNat → p (l0.getD j z83) = false))
 case atStart => exact ⟨0, by omega, by omega, ⟨by simp⟩, rfl, ⟨Below.refl _ _⟩, ⟨fun j hj => by simp at hj⟩⟩
 case round =>
  obtain ⟨x, hx0, hx1, HG, rfl, HB, HA⟩ := hrel
  by_cases c3 : x < (l0.length : Int)
  ·have c3b0 : decide (x < (l0.length : Int)) = true := decide_eq_true c3
   have c4b0 : decide (0 ≤ x) = true := decide_eq_true hx0
   obtain ⟨ad, A_4, c_4, e1, q0, q1, q2, q3, q4, ql4, qc4⟩ := at_T83 HR0.out x hx0 c3
   cases e1
   replace q0 := zx HB q0
   replace q1 := zx HB q1
   replace q2 := zx HB q2
   replace q3 := zx HB q3
   replace q4 := zx HB q4
   replace qc4 := Kd.C_below qc4 HB.out
   have hx : x.toNat < l0.length := by omega
   have hrd : rd_T83 l0 x = l0.getD x.toNat z83 := rfl
   have hcall := hp wr (rd_T83 l0 x) A_4 c_4 (by rw [hrd, List.getD_eq_getElem?_getD, List.getElem?_eq_getElem hx]; exact List.getElem_mem hx) HB.out ql4 qc4
   clear hp hrd
   cases hq : p (rd_T83 l0 x) with
   | true =>
    rw [hq] at hcall
    have HQ := Aside0.mk hq
    clear hq
    go_wp2_with (go_at_fn g; refine hcall.mono ?_; rintro e w' ⟨rfl, hb'⟩)
    go_ret
    refine ⟨?_, HB.out.trans (hb'.mono HB.out.size)⟩
    unfold Go.Proofs.Ytonbnmaelepcbaa.Lb.idx
    rw [Go.Proofs.Ytonbnmaelepcbaa.Lb.idx_hit p z83 l0 x.toNat 0 hx HA.out HQ.out]
    rw [show (0 : Int) + (x.toNat : Int) = x by omega]
    rfl
   | false =>
    rw [hq] at hcall
    have HQ := Aside0.mk hq
    clear hq
    go_wp2_with (go_at_fn g; refine hcall.mono ?_; rintro e w' ⟨rfl, hb'⟩)
    go_roundg (l0.length + 1 - (x + 1).toNat)
    case measure => have := HG.out; omega
    case rel => exact ⟨x + 1, by omega, by omega, ⟨by omega⟩, by first | rfl | go_num, ⟨HB.out.trans (hb'.mono HB.out.size)⟩, ⟨fun j hj => by
     by_cases e : j = x.toNat
     ·subst e; exact HQ.out
     exact HA.out j (by omega)⟩⟩
  have hxx : x = (l0.length : Int) := by omega
  have c3b0 : decide (x < (l0.length : Int)) = false := decide_eq_false c3
  have hm : Go.Proofs.Ytonbnmaelepcbaa.Lb.idx p l0 = -1 := by
   unfold Go.Proofs.Ytonbnmaelepcbaa.Lb.idx
   exact Go.Proofs.Ytonbnmaelepcbaa.Lb.idx_miss p z83 l0 0 (fun j hj => HA.out j (by omega))
  have HM := Aside0.mk hm
  clear hm
  have HX := Aside0.mk hxx
  clear hxx
  go_wp2
  go_ret
  exact ⟨by rw [HM.out]; rfl, HB.out⟩
-- PROOF --
set_option maxHeartbeats 8000000 in
set_option maxRecDepth 100000 in
theorem slices_ContainsFunc_impl_Txn.calls (g : Nat) (lb : Array Value) (p : S83 → Bool) (A0 : Option Addr) (c0 : Nat) (l0 : List (S83)) (w : World) (hr0 : Kd.C k83 w A0 l0.length l0)
 (hp : ∀ (W : World) (x : S83) (A_4 : Option Addr) (c_4 : Nat), x ∈ l0 → Below w.heap.size w W → x.f4.length ≤ c_4 → Kd.C k96 W A_4 x.f4.length x.f4 → Calls Try.prog g (#[.agg #[.int .i64 x.f0, .int .i64 x.f1, .int .i64 x.f2, .int .i64 x.f3, .slice A_4 x.f4.length c_4]] ++ lb) W fun e w' => e = .returned (.bool (p x)) ∧ Below W.heap.size W w')
 (eg : ∀ args w, (callFunc g args).run Try.prog w = .ok (.enter g args) w) :
 Calls Try.prog 61 #[.slice A0 l0.length c0, .func (.func g) #[] lb] w fun e w' => e = .returned (.bool (l0.any p)) ∧ Below w.heap.size w w' := by
 have hcon := slices_IndexFunc_impl_Txn.calls g lb p A0 c0 l0 w hr0 hp eg
 rw [← Go.Proofs.Ytonbnmaelepcbaa.Lb.idx_any p l0]
 clear hr0 hp
 generalize Go.Proofs.Ytonbnmaelepcbaa.Lb.idx p l0 = r at hcon ⊢
 have HC := Aside0.mk hcon
 clear hcon
 go_enter Try.func61, Try.ntmps61
 go_wp2_with (go_at_call 118; refine HC.out.mono ?_; rintro e w' ⟨rfl, hb'⟩)
 go_ret
 exact ⟨rfl, hb'⟩
-- PROOF --
set_option maxHeartbeats 8000000 in
set_option maxRecDepth 100000 in
theorem slices_IndexFunc_impl_Undo.calls (g : Nat) (lb : Array Value) (p : S96 → Bool) (A0 : Option Addr) (c0 : Nat) (l0 : List (S96)) (w : World) (hr0 : Kd.C k96 w A0 l0.length l0)
 (hp : ∀ (W : World) (x : S96), x ∈ l0 → Below w.heap.size w W → Calls Try.prog g (#[.agg #[.int .i64 x.f0, .bool x.f1, .bool x.f2, .int .i64 x.f3]] ++ lb) W fun e w' => e = .returned (.bool (p x)) ∧ Below W.heap.size W w')
 (eg : ∀ args w, (callFunc g args).run Try.prog w = .ok (.enter g args) w) :
 Calls Try.prog 120 #[.slice A0 l0.length c0, .func (.func g) #[] lb] w fun e w' => e = .returned (.int .i64 (Go.Proofs.Ytonbnmaelepcbaa.Lb.idx p l0)) ∧ Below w.heap.size w w' := by
 have hu96 := Try.underlying96
 have hn := hr0.2.1
 have HR0 := Aside0.mk hr0
 clear hr0
 go_enter Try.func120, Try.ntmps120
 go_wp2
 go_loopg [5, 8] (l0.length + 1) (fun gg _ s8 wr => ∃ x : Int, 0 ≤ x ∧ x ≤ (l0.length : Int) ∧ Aside0 (l0.length + 1 - x.toNat ≤ gg) ∧ s8 = .int .i64 x ∧ Aside0 (Below w.heap.size w wr) ∧ Aside0 (∀ j : Nat, j < x.toNat → p (l0.getD j z96) = false))
 case atStart => exact ⟨0, by omega, by omega, ⟨by simp⟩, rfl, ⟨Below.refl _ _⟩, ⟨fun j hj => by simp at hj⟩⟩
 case round =>
  obtain ⟨x, hx0, hx1, HG, rfl, HB, HA⟩ := hrel
  by_cases c3 : x < (l0.length : Int)
  ·have c3b0 : decide (x < (l0.length : Int)) = true := decide_eq_true c3
   have c4b0 : decide (0 ≤ x) = true := decide_eq_true hx0
   obtain ⟨ad, e1, q0, q1, q2, q3⟩ := at_T96 HR0.out x hx0 c3
   cases e1
   replace q0 := zx HB q0
   replace q1 := zx HB q1
   replace q2 := zx HB q2
   replace q3 := zx HB q3
   have hx : x.toNat < l0.length := by omega
   have hrd : rd_T96 l0 x = l0.getD x.toNat z96 := rfl
   have hcall := hp wr (rd_T96 l0 x) (by rw [hrd, List.getD_eq_getElem?_getD, List.getElem?_eq_getElem hx]; exact List.getElem_mem hx) HB.out
   clear hp hrd
   cases hq : p (rd_T96 l0 x) with
   | true =>
    rw [hq] at hcall
    have HQ := Aside0.mk hq
    clear hq
    go_wp2_with (go_at_fn g; refine hcall.mono ?_; rintro e w' ⟨rfl, hb'⟩)
    go_ret
    refine ⟨?_, HB.out.trans (hb'.mono HB.out.size)⟩
    unfold Go.Proofs.Ytonbnmaelepcbaa.Lb.idx
    rw [Go.Proofs.Ytonbnmaelepcbaa.Lb.idx_hit p z96 l0 x.toNat 0 hx HA.out HQ.out]
    rw [show (0 : Int) + (x.toNat : Int) = x by omega]
    rfl
   | false =>
    rw [hq] at hcall
    have HQ := Aside0.mk hq
    clear hq
    go_wp2_with (go_at_fn g; refine hcall.mono ?_; rintro e w' ⟨rfl, hb'⟩)
    go_roundg (l0.length + 1 - (x + 1).toNat)
    case measure => have := HG.out; omega
    case rel => exact ⟨x + 1, by omega, by omega, ⟨by omega⟩, by first | rfl | go_num, ⟨HB.out.trans (hb'.mono HB.out.size)⟩, ⟨fun j hj => by
     by_cases e : j = x.toNat
     ·subst e; exact HQ.out
     exact HA.out j (by omega)⟩⟩
  have hxx : x = (l0.length : Int) := by omega
  have c3b0 : decide (x < (l0.length : Int)) = false := decide_eq_false c3
  have hm : Go.Proofs.Ytonbnmaelepcbaa.Lb.idx p l0 = -1 := by
   unfold Go.Proofs.Ytonbnmaelepcbaa.Lb.idx
   exact Go.Proofs.Ytonbnmaelepcbaa.Lb.idx_miss p z96 l0 0 (fun j hj => HA.out j (by omega))
  have HM := Aside0.mk hm
  clear hm
  have HX := Aside0.mk hxx
  clear hxx
  go_wp2
  go_ret
  exact ⟨by rw [HM.out]; rfl, HB.out⟩
-- PROOF --
set_option maxHeartbeats 8000000 in
set_option maxRecDepth 100000 in
theorem slices_ContainsFunc_impl_Undo.calls (g : Nat) (lb : Array Value) (p : S96 → Bool) (A0 : Option Addr) (c0 : Nat) (l0 : List (S96)) (w : World) (hr0 : Kd.C k96 w A0 l0.length l0)
 (hp : ∀ (W : World) (x : S96), x ∈ l0 → Below w.heap.size w W → Calls Try.prog g (#[.agg #[.int .i64 x.f0, .bool x.f1, .bool x.f2, .int .i64 x.f3]] ++ lb) W fun e w' => e = .returned (.bool (p x)) ∧ Below W.heap.size W w')
 (eg : ∀ args w, (callFunc g args).run Try.prog w = .ok (.enter g args) w) :
 Calls Try.prog 64 #[.slice A0 l0.length c0, .func (.func g) #[] lb] w fun e w' => e = .returned (.bool (l0.any p)) ∧ Below w.heap.size w w' := by
 have hcon := slices_IndexFunc_impl_Undo.calls g lb p A0 c0 l0 w hr0 hp eg
 rw [← Go.Proofs.Ytonbnmaelepcbaa.Lb.idx_any p l0]
 clear hr0 hp
 generalize Go.Proofs.Ytonbnmaelepcbaa.Lb.idx p l0 = r at hcon ⊢
 have HC := Aside0.mk hcon
 clear hcon
 go_enter Try.func64, Try.ntmps64
 go_wp2_with (go_at_call 120; refine HC.out.mono ?_; rintro e w' ⟨rfl, hb'⟩)
 go_ret
 exact ⟨rfl, hb'⟩
set_option maxHeartbeats 8000000 in
set_option maxRecDepth 100000 in
theorem impl_isOpenOf.calls (A0 : Option Addr) (c0 : Nat) (l0 : List (S90)) (a1 : Int) (r : Bool) (w : World) (hr0 : Kd.C k90 w A0 l0.length l0) (hc0 : l0.length ≤ c0) (h : impl_isOpenOf.f l0 a1 = some r) :
 Calls Try.prog 66 #[.slice A0 l0.length c0, .int .i64 a1] w fun e w' => e = .returned (.bool r) ∧ Drawn0 w w' := by
 have HR0 := Aside0.mk hr0
 have HC0 := Aside0.mk hc0
 clear hr0 hc0
 have H : (if (l0.length : Int) > 0 then (if 0 < (l0.length : Int) then (if ((rd_T90 l0 0).f1) = 0 then (some (((rd_T90 l0 0).f0) == a1)) else (some false)) else (none)) else (some false)) = some r := h
 clear h
 by_cases c3 : (l0.length : Int) > 0
 ·rw [if_pos c3] at H
  have c3b0 : decide (0 < (l0.length : Int)) = true := decide_eq_true c3
  have c3b1 : decide (0 < l0.length) = true := decide_eq_true (by omega)
  clear c3
  by_cases c4 : 0 < (l0.length : Int)
  ·rw [if_pos c4] at H
   have c4b0 : decide (0 < (l0.length : Int)) = true := decide_eq_true c4
   have c4b1 : decide (0 < l0.length) = true := decide_eq_true (by omega)
   clear c4
   by_cases c5 : ((rd_T90 l0 0).f1) = 0
   ·rw [if_pos c5] at H
    have c5b0 : (((rd_T90 l0 0).f1) == 0) = true := beq_iff_eq.mpr c5
    have c5b1 : (((rd_T90 l0 0).f1) != 0) = false := bne_eq_false_iff_eq.mpr c5
    clear c5
    obtain rfl := Option.some.inj H
    have p211 : 0 ≤ (0 : Int) := (by omega)
    have q6 : 0 < (l0.length : Int) := of_decide_eq_true za
    obtain ⟨ad6, e211, hx6_0, hx6_1, hx6_2, hx6_3⟩ := at_T90 HR0.out 0 p211 q6
    cases e211
    have qi211 : (0 < l0.length) = True := eq_true (by omega)
    (try rw [show ((0 : Int)).toNat = 0 from rfl] at hx6_0 hx6_1 hx6_2 hx6_3)
    (try rw [show 0 * 4 = 0 from rfl] at hx6_0 hx6_1 hx6_2 hx6_3)
    (try rw [Addr.add_zero'] at hx6_0 hx6_1 hx6_2 hx6_3)
    replace p211 := eq_true p211
    replace q6 := eq_true q6
    have p212 : 0 ≤ (0 : Int) := (by omega)
    have q7 : 0 < (l0.length : Int) := of_decide_eq_true za
    obtain ⟨ad7, e212, hx7_0, hx7_1, hx7_2, hx7_3⟩ := at_T90 HR0.out 0 p212 q7
    obtain rfl : ad6 = ad7 := (by injection e212)
    have qi212 : (0 < l0.length) = True := eq_true (by omega)
    (try rw [show ((0 : Int)).toNat = 0 from rfl] at hx7_0 hx7_1 hx7_2 hx7_3)
    (try rw [show 0 * 4 = 0 from rfl] at hx7_0 hx7_1 hx7_2 hx7_3)
    (try rw [Addr.add_zero'] at hx7_0 hx7_1 hx7_2 hx7_3)
    replace p212 := eq_true p212
    replace q7 := eq_true q7
    go_enter Try.func66, Try.ntmps66
    go_wp2
    go_ret
    exact ⟨zs, zd⟩
   rw [if_neg c5] at H
   have c5b0 : (((rd_T90 l0 0).f1) == 0) = false := beq_eq_false_iff_ne.mpr c5
   have c5b1 : (((rd_T90 l0 0).f1) != 0) = true := bne_iff_ne.mpr c5
   obtain rfl := Option.some.inj H
   have p211 : 0 ≤ (0 : Int) := (by omega)
   have q6 : 0 < (l0.length : Int) := of_decide_eq_true za
   obtain ⟨ad6, e211, hx6_0, hx6_1, hx6_2, hx6_3⟩ := at_T90 HR0.out 0 p211 q6
   cases e211
   have qi211 : (0 < l0.length) = True := eq_true (by omega)
   (try rw [show ((0 : Int)).toNat = 0 from rfl] at hx6_0 hx6_1 hx6_2 hx6_3)
   (try rw [show 0 * 4 = 0 from rfl] at hx6_0 hx6_1 hx6_2 hx6_3)
   (try rw [Addr.add_zero'] at hx6_0 hx6_1 hx6_2 hx6_3)
   replace p211 := eq_true p211
   replace q6 := eq_true q6
   go_enter Try.func66, Try.ntmps66
   go_wp2
   go_ret
   exact ⟨zs, zd⟩
  rw [if_neg c4] at H
  exact absurd H (by simp)
 rw [if_neg c3] at H
 have c3b0 : decide (0 < (l0.length : Int)) = false := decide_eq_false c3
 have c3b1 : decide (0 < l0.length) = false := decide_eq_false (by omega)
 clear c3
 obtain rfl := Option.some.inj H
 go_enter Try.func66, Try.ntmps66
 go_wp2
 go_ret
 exact ⟨zs, zd⟩
end Go.Proofs.Ytonbnmaelepcbaa.P
