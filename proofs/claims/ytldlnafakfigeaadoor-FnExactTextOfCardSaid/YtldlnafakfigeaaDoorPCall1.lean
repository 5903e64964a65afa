import Derived.Test.YtldlnafakfigeaaDoorZz
import Derived.Test.YtldlnafakfigeaaDoorP0
import Derived.Test.YtldlnafakfigeaaDoorPCall0
import Derived.Test.YtldlnafakfigeaaDoorPDall0
import Derived.Test.YtldlnafakfigeaaDoorWRepsOne
import Derived.Test.YtldlnafakfigeaaDoorLv
namespace Go.Proofs.YtldlnafakfigeaaDoor.P
open Go.RowKit Go.Proofs.YtldlnafakfigeaaDoorW.PrintWords Go.Proofs.YtldlnafakfigeaaDoorW.PrintLast Go.Proofs.YtldlnafakfigeaaDoorW.PrintMore
attribute [local go_sem] max2_int min2_int max_two min_two max_three min_three max_four min_four   -- for this text's walks alone
set_option linter.unusedVariables false
set_option linter.unusedSimpArgs false
set_option maxHeartbeats 40000000 in
set_option maxRecDepth 100000 in
theorem spec_ChainFault.calls (k : Nat) (A0 : Option Addr) (c0 : Nat) (l0 : List (S51)) (r : Int) (w : World) (hr0 : Kd.C k51 w A0 l0.length l0) (hc0 : l0.length ≤ c0) (h : spec_ChainFault.f k l0 = some r) :
 Calls Tryd.prog 53 #[.slice A0 l0.length c0] w fun e w' => e = .returned (.int .i64 r) ∧ Below w.heap.size w w' := by
 have hu51 := Tryd.underlying51
 have HR0 := Aside0.mk hr0
 have HC0 := Aside0.mk hc0
 clear hr0 hc0
 have HB := Aside0.mk (Below.refl w.heap.size w)
 have H : (if (l0.length : Int) > 12 then (some 2) else (spec_ChainFault.l0 k l0 0)) = some r := h
 clear h
 by_cases c2 : (l0.length : Int) > 12
 ·rw [if_pos c2] at H
  have c2b0 : decide (12 < (l0.length : Int)) = true := decide_eq_true c2
  have c2b1 : decide (12 < l0.length) = true := decide_eq_true (by omega)
  clear c2
  obtain rfl := Option.some.inj H
  go_enter Tryd.func53, Tryd.ntmps53
  go_wp2
  repeat (go_quiet (fail); try go_wp2)
  go_ret
  exact ⟨ze, zb⟩
 rw [if_neg c2] at H
 have c2b0 : decide (12 < (l0.length : Int)) = false := decide_eq_false c2
 have c2b1 : decide (12 < l0.length) = false := decide_eq_false (by omega)
 clear c2
 have H' := Aside0.mk H
 clear H
 go_enter Tryd.func53, Tryd.ntmps53
 go_wp2
 repeat (go_quiet (fail); try go_wp2)
 go_loopg [3] k (fun kq v3 w' => ∃ (x3_1 : Int), v3 = .int .i64 x3_1 ∧ Aside0 (spec_ChainFault.l0 kq l0 x3_1 = some r) ∧ Aside0 (kq ≤ k) ∧ Aside0 (Below w.heap.size w w'))
 case atStart => exact ⟨(0), zs, H', ⟨Nat.le_refl _⟩, ⟨zb⟩⟩
 case round =>
  clear H'
  try clear c2
  try clear c2b0
  try clear c2b1
  try clear p2
  obtain ⟨x3_1, rfl, HA, HK1, HB⟩ := hrel
  cases gk with
  | zero => exact absurd HA.out (by simp [spec_ChainFault.l0])
  | succ k1 =>
   have H := HA.out
   clear HA
   simp only [spec_ChainFault.l0] at H
   by_cases c3 : x3_1 < (l0.length : Int)
   ·rw [if_pos c3] at H
    have c3b0 : decide (x3_1 < (l0.length : Int)) = true := decide_eq_true c3
    clear c3
    by_cases c4 : 0 ≤ x3_1
    ·rw [if_pos c4] at H
     have c4b0 : decide (0 ≤ x3_1) = true := decide_eq_true c4
     clear c4
     have HC5 := Aside0.mk H
     clear H
     have p116 : 0 ≤ (x3_1 : Int) := of_decide_eq_true za
     have q56 : x3_1 < (l0.length : Int) := of_decide_eq_true za
     obtain ⟨ad56, e116, hx56_0, hx56_1, hx56_2, hx56_3⟩ := at_T51 (Kd.C_below HR0.out HB.out) x3_1 p116 q56
     cases e116
     replace p116 := eq_true p116
     replace q56 := eq_true q56
     go_upto_region 7 with (first | ((with_reducible refine gate_dst (N := 4) rfl ?_); refine zE 4 51 #[.int .i64 0, .int .i64 0, .bool false, .int .i64 0] ?_; intro gb34 hg w6 hbox hb; have BK34 := Aside0.mk hbox; have GW34 := Aside0.mk (zh hg : w.heap.size ≤ gb34); have GE34 := GW34; replace HB := Aside0.mk (below_step zb hb); clear hb hbox hg; obtain ⟨z7_0, z7_1, z7_2, z7_3, j7_0, j7_1, j7_2, j7_3⟩ := Go.Proofs.YtldlnafakfigeaaDoor.Lv.blks4 BK34.out))
     repeat (go_quiet (first | ((with_reducible refine gate_dst (N := 4) rfl ?_); refine zE 4 51 #[.int .i64 0, .int .i64 0, .bool false, .int .i64 0] ?_; intro gb34 hg w6 hbox hb; have BK34 := Aside0.mk hbox; have GW34 := Aside0.mk (zh hg : w.heap.size ≤ gb34); have GE34 := GW34; replace HB := Aside0.mk (below_step zb hb); clear hb hbox hg; obtain ⟨z7_0, z7_1, z7_2, z7_3, j7_0, j7_1, j7_2, j7_3⟩ := Go.Proofs.YtldlnafakfigeaaDoor.Lv.blks4 BK34.out)); go_upto_region 7 with (first | ((with_reducible refine gate_dst (N := 4) rfl ?_); refine zE 4 51 #[.int .i64 0, .int .i64 0, .bool false, .int .i64 0] ?_; intro gb34 hg w6 hbox hb; have BK34 := Aside0.mk hbox; have GW34 := Aside0.mk (zh hg : w.heap.size ≤ gb34); have GE34 := GW34; replace HB := Aside0.mk (below_step zb hb); clear hb hbox hg; obtain ⟨z7_0, z7_1, z7_2, z7_3, j7_0, j7_1, j7_2, j7_3⟩ := Go.Proofs.YtldlnafakfigeaaDoor.Lv.blks4 BK34.out)))
     (try simp only [Act.put, List.setIfInBounds_toArray, List.set_cons_zero, List.set_cons_succ])
     go_cut [38] (fun v38 wc => ∃ (kq : Nat) (x38_4 : Bool), v38 = .bool x38_4 ∧ Aside0 (spec_ChainFault.j1 kq l0 x3_1 x38_4 ((rd_T51 l0 x3_1).f0) ((rd_T51 l0 x3_1).f1) ((rd_T51 l0 x3_1).f2) ((rd_T51 l0 x3_1).f3) = some r) ∧ Aside0 (kq ≤ k1) ∧ Aside0 (wc.heap[gb34]? = some (.cells #[.int .i64 ((rd_T51 l0 x3_1).f0), .int .i64 ((rd_T51 l0 x3_1).f1), .bool ((rd_T51 l0 x3_1).f2), .int .i64 ((rd_T51 l0 x3_1).f3)] 51 (0, 0))) ∧ Aside0 (Below w.heap.size w wc))
     case first =>
      have H := HC5.out
      clear HC5
      replace H := Option.bind_eq_some_iff.mp H
      obtain ⟨t60, A80, H⟩ := H
      replace H : (if t60 = true then (if ((rd_T51 l0 x3_1).f1) = 0 then ((spec_l1Value.f ((rd_T51 l0 x3_1).f3)).bind fun t58 => (spec_ChainFault.j1 k1 l0 x3_1 (!t58) ((rd_T51 l0 x3_1).f0) ((rd_T51 l0 x3_1).f1) ((rd_T51 l0 x3_1).f2) ((rd_T51 l0 x3_1).f3))) else ((spec_l5At.f ((rd_T51 l0 x3_1).f1)).bind fun t59 => (if t59 = true then ((spec_l1Value.f ((rd_T51 l0 x3_1).f3)).bind fun t57 => (spec_ChainFault.j1 k1 l0 x3_1 (!t57) ((rd_T51 l0 x3_1).f0) ((rd_T51 l0 x3_1).f1) ((rd_T51 l0 x3_1).f2) ((rd_T51 l0 x3_1).f3))) else (spec_ChainFault.j1 k1 l0 x3_1 true ((rd_T51 l0 x3_1).f0) ((rd_T51 l0 x3_1).f1) ((rd_T51 l0 x3_1).f2) ((rd_T51 l0 x3_1).f3))))) else (spec_ChainFault.j1 k1 l0 x3_1 true ((rd_T51 l0 x3_1).f0) ((rd_T51 l0 x3_1).f1) ((rd_T51 l0 x3_1).f2) ((rd_T51 l0 x3_1).f3))) = some r := H
      have A8 := Aside0.mk A80
      clear A80
      by_cases c9 : t60 = true
      ·subst c9
       have H1 : (if ((rd_T51 l0 x3_1).f1) = 0 then ((spec_l1Value.f ((rd_T51 l0 x3_1).f3)).bind fun t58 => (spec_ChainFault.j1 k1 l0 x3_1 (!t58) ((rd_T51 l0 x3_1).f0) ((rd_T51 l0 x3_1).f1) ((rd_T51 l0 x3_1).f2) ((rd_T51 l0 x3_1).f3))) else ((spec_l5At.f ((rd_T51 l0 x3_1).f1)).bind fun t59 => (if t59 = true then ((spec_l1Value.f ((rd_T51 l0 x3_1).f3)).bind fun t57 => (spec_ChainFault.j1 k1 l0 x3_1 (!t57) ((rd_T51 l0 x3_1).f0) ((rd_T51 l0 x3_1).f1) ((rd_T51 l0 x3_1).f2) ((rd_T51 l0 x3_1).f3))) else (spec_ChainFault.j1 k1 l0 x3_1 true ((rd_T51 l0 x3_1).f0) ((rd_T51 l0 x3_1).f1) ((rd_T51 l0 x3_1).f2) ((rd_T51 l0 x3_1).f3))))) = some r := by rw [if_pos rfl] at H; exact H
       clear H
       have H := H1
       clear H1
       by_cases c10 : ((rd_T51 l0 x3_1).f1) = 0
       ·rw [if_pos c10] at H
        have c10b0 : (((rd_T51 l0 x3_1).f1) == 0) = true := beq_iff_eq.mpr c10
        have c10b1 : (((rd_T51 l0 x3_1).f1) != 0) = false := bne_eq_false_iff_eq.mpr c10
        clear c10
        (first | rw [c10b0] | (simp only [i64_w, i32_w]; rw [c10b0]) | skip)
        replace H := Option.bind_eq_some_iff.mp H
        obtain ⟨t58, A61, H⟩ := H
        replace H : (spec_ChainFault.j1 k1 l0 x3_1 (!t58) ((rd_T51 l0 x3_1).f0) ((rd_T51 l0 x3_1).f1) ((rd_T51 l0 x3_1).f2) ((rd_T51 l0 x3_1).f3)) = some r := H
        have A11 := Aside0.mk A61
        clear A61
        have H' := Aside0.mk H
        clear H
        obtain ⟨z12_0, z12_1, z12_2, z12_3, j12_0, j12_1, j12_2, j12_3⟩ := Go.Proofs.YtldlnafakfigeaaDoor.Lv.blks4 BK34.out
        go_wp2_with (first | (go_at_call 23; (with_reducible refine (spec_l5Txn.calls ((rd_T51 l0 x3_1).f0) true _ A8.out).mono ?_); rintro e w' ⟨rfl, ⟨nd, rfl⟩⟩; (try first | exact ⟨rfl, _, World.drewN_drewN _ _ _⟩ | exact ⟨rfl, _, Eq.trans (World.drewN_drewN _ _ _) (congrArg (World.drewN _) (Nat.add_assoc _ _ _))⟩)) | (go_at_call 69; (with_reducible refine (spec_l1Value.calls ((rd_T51 l0 x3_1).f3) t58 _ A11.out).mono ?_); rintro e w' ⟨rfl, ⟨nd, rfl⟩⟩; (try first | exact ⟨rfl, _, World.drewN_drewN _ _ _⟩ | exact ⟨rfl, _, Eq.trans (World.drewN_drewN _ _ _) (congrArg (World.drewN _) (Nat.add_assoc _ _ _))⟩)))
        repeat (go_quiet (first | (go_at_call 23; (with_reducible refine (spec_l5Txn.calls ((rd_T51 l0 x3_1).f0) true _ A8.out).mono ?_); rintro e w' ⟨rfl, ⟨nd, rfl⟩⟩; (try first | exact ⟨rfl, _, World.drewN_drewN _ _ _⟩ | exact ⟨rfl, _, Eq.trans (World.drewN_drewN _ _ _) (congrArg (World.drewN _) (Nat.add_assoc _ _ _))⟩)) | (go_at_call 69; (with_reducible refine (spec_l1Value.calls ((rd_T51 l0 x3_1).f3) t58 _ A11.out).mono ?_); rintro e w' ⟨rfl, ⟨nd, rfl⟩⟩; (try first | exact ⟨rfl, _, World.drewN_drewN _ _ _⟩ | exact ⟨rfl, _, Eq.trans (World.drewN_drewN _ _ _) (congrArg (World.drewN _) (Nat.add_assoc _ _ _))⟩))); try go_wp2_with (first | (go_at_call 23; (with_reducible refine (spec_l5Txn.calls ((rd_T51 l0 x3_1).f0) true _ A8.out).mono ?_); rintro e w' ⟨rfl, ⟨nd, rfl⟩⟩; (try first | exact ⟨rfl, _, World.drewN_drewN _ _ _⟩ | exact ⟨rfl, _, Eq.trans (World.drewN_drewN _ _ _) (congrArg (World.drewN _) (Nat.add_assoc _ _ _))⟩)) | (go_at_call 69; (with_reducible refine (spec_l1Value.calls ((rd_T51 l0 x3_1).f3) t58 _ A11.out).mono ?_); rintro e w' ⟨rfl, ⟨nd, rfl⟩⟩; (try first | exact ⟨rfl, _, World.drewN_drewN _ _ _⟩ | exact ⟨rfl, _, Eq.trans (World.drewN_drewN _ _ _) (congrArg (World.drewN _) (Nat.add_assoc _ _ _))⟩))))
        go_meet
        case rel => exact ⟨_, (!t58), zs, H', ⟨by have := HK1.out; first | omega | exact Nat.le_refl _⟩, ⟨by refine zQ ?_; refine blk_put (cs := #[.int .i64 ((rd_T51 l0 x3_1).f0), .int .i64 ((rd_T51 l0 x3_1).f1), .bool ((rd_T51 l0 x3_1).f2), .int .i64 0]) ?_ 3 _ rfl; refine zQ ?_; refine blk_put (cs := #[.int .i64 ((rd_T51 l0 x3_1).f0), .int .i64 ((rd_T51 l0 x3_1).f1), .bool false, .int .i64 0]) ?_ 2 _ rfl; refine zQ ?_; refine blk_put (cs := #[.int .i64 ((rd_T51 l0 x3_1).f0), .int .i64 0, .bool false, .int .i64 0]) ?_ 1 _ rfl; refine zQ ?_; refine blk_put (cs := #[.int .i64 0, .int .i64 0, .bool false, .int .i64 0]) ?_ 0 _ rfl; refine zQ ?_; exact BK34.out⟩, ⟨zb⟩⟩
       rw [if_neg c10] at H
       have c10b0 : (((rd_T51 l0 x3_1).f1) == 0) = false := beq_eq_false_iff_ne.mpr c10
       have c10b1 : (((rd_T51 l0 x3_1).f1) != 0) = true := bne_iff_ne.mpr c10
       (first | rw [c10b0] | (simp only [i64_w, i32_w]; rw [c10b0]) | skip)
       replace H := Option.bind_eq_some_iff.mp H
       obtain ⟨t59, A62, H⟩ := H
       replace H : (if t59 = true then ((spec_l1Value.f ((rd_T51 l0 x3_1).f3)).bind fun t57 => (spec_ChainFault.j1 k1 l0 x3_1 (!t57) ((rd_T51 l0 x3_1).f0) ((rd_T51 l0 x3_1).f1) ((rd_T51 l0 x3_1).f2) ((rd_T51 l0 x3_1).f3))) else (spec_ChainFault.j1 k1 l0 x3_1 true ((rd_T51 l0 x3_1).f0) ((rd_T51 l0 x3_1).f1) ((rd_T51 l0 x3_1).f2) ((rd_T51 l0 x3_1).f3))) = some r := H
       have A13 := Aside0.mk A62
       clear A62
       by_cases c14 : t59 = true
       ·subst c14
        have H1 : ((spec_l1Value.f ((rd_T51 l0 x3_1).f3)).bind fun t57 => (spec_ChainFault.j1 k1 l0 x3_1 (!t57) ((rd_T51 l0 x3_1).f0) ((rd_T51 l0 x3_1).f1) ((rd_T51 l0 x3_1).f2) ((rd_T51 l0 x3_1).f3))) = some r := by rw [if_pos rfl] at H; exact H
        clear H
        have H := H1
        clear H1
        replace H := Option.bind_eq_some_iff.mp H
        obtain ⟨t57, A63, H⟩ := H
        replace H : (spec_ChainFault.j1 k1 l0 x3_1 (!t57) ((rd_T51 l0 x3_1).f0) ((rd_T51 l0 x3_1).f1) ((rd_T51 l0 x3_1).f2) ((rd_T51 l0 x3_1).f3)) = some r := H
        have A15 := Aside0.mk A63
        clear A63
        have H' := Aside0.mk H
        clear H
        obtain ⟨z16_0, z16_1, z16_2, z16_3, j16_0, j16_1, j16_2, j16_3⟩ := Go.Proofs.YtldlnafakfigeaaDoor.Lv.blks4 BK34.out
        go_wp2_with (first | (go_at_call 23; (with_reducible refine (spec_l5Txn.calls ((rd_T51 l0 x3_1).f0) true _ A8.out).mono ?_); rintro e w' ⟨rfl, ⟨nd, rfl⟩⟩; (try first | exact ⟨rfl, _, World.drewN_drewN _ _ _⟩ | exact ⟨rfl, _, Eq.trans (World.drewN_drewN _ _ _) (congrArg (World.drewN _) (Nat.add_assoc _ _ _))⟩)) | (go_at_call 70; (with_reducible refine (spec_l5At.calls ((rd_T51 l0 x3_1).f1) true _ A13.out).mono ?_); rintro e w' ⟨rfl, ⟨nd, rfl⟩⟩; (try first | exact ⟨rfl, _, World.drewN_drewN _ _ _⟩ | exact ⟨rfl, _, Eq.trans (World.drewN_drewN _ _ _) (congrArg (World.drewN _) (Nat.add_assoc _ _ _))⟩)) | (go_at_call 69; (with_reducible refine (spec_l1Value.calls ((rd_T51 l0 x3_1).f3) t57 _ A15.out).mono ?_); rintro e w' ⟨rfl, ⟨nd, rfl⟩⟩; (try first | exact ⟨rfl, _, World.drewN_drewN _ _ _⟩ | exact ⟨rfl, _, Eq.trans (World.drewN_drewN _ _ _) (congrArg (World.drewN _) (Nat.add_assoc _ _ _))⟩)))
        repeat (go_quiet (first | (go_at_call 23; (with_reducible refine (spec_l5Txn.calls ((rd_T51 l0 x3_1).f0) true _ A8.out).mono ?_); rintro e w' ⟨rfl, ⟨nd, rfl⟩⟩; (try first | exact ⟨rfl, _, World.drewN_drewN _ _ _⟩ | exact ⟨rfl, _, Eq.trans (World.drewN_drewN _ _ _) (congrArg (World.drewN _) (Nat.add_assoc _ _ _))⟩)) | (go_at_call 70; (with_reducible refine (spec_l5At.calls ((rd_T51 l0 x3_1).f1) true _ A13.out).mono ?_); rintro e w' ⟨rfl, ⟨nd, rfl⟩⟩; (try first | exact ⟨rfl, _, World.drewN_drewN _ _ _⟩ | exact ⟨rfl, _, Eq.trans (World.drewN_drewN _ _ _) (congrArg (World.drewN _) (Nat.add_assoc _ _ _))⟩)) | (go_at_call 69; (with_reducible refine (spec_l1Value.calls ((rd_T51 l0 x3_1).f3) t57 _ A15.out).mono ?_); rintro e w' ⟨rfl, ⟨nd, rfl⟩⟩; (try first | exact ⟨rfl, _, World.drewN_drewN _ _ _⟩ | exact ⟨rfl, _, Eq.trans (World.drewN_drewN _ _ _) (congrArg (World.drewN _) (Nat.add_assoc _ _ _))⟩))); try go_wp2_with (first | (go_at_call 23; (with_reducible refine (spec_l5Txn.calls ((rd_T51 l0 x3_1).f0) true _ A8.out).mono ?_); rintro e w' ⟨rfl, ⟨nd, rfl⟩⟩; (try first | exact ⟨rfl, _, World.drewN_drewN _ _ _⟩ | exact ⟨rfl, _, Eq.trans (World.drewN_drewN _ _ _) (congrArg (World.drewN _) (Nat.add_assoc _ _ _))⟩)) | (go_at_call 70; (with_reducible refine (spec_l5At.calls ((rd_T51 l0 x3_1).f1) true _ A13.out).mono ?_); rintro e w' ⟨rfl, ⟨nd, rfl⟩⟩; (try first | exact ⟨rfl, _, World.drewN_drewN _ _ _⟩ | exact ⟨rfl, _, Eq.trans (World.drewN_drewN _ _ _) (congrArg (World.drewN _) (Nat.add_assoc _ _ _))⟩)) | (go_at_call 69; (with_reducible refine (spec_l1Value.calls ((rd_T51 l0 x3_1).f3) t57 _ A15.out).mono ?_); rintro e w' ⟨rfl, ⟨nd, rfl⟩⟩; (try first | exact ⟨rfl, _, World.drewN_drewN _ _ _⟩ | exact ⟨rfl, _, Eq.trans (World.drewN_drewN _ _ _) (congrArg (World.drewN _) (Nat.add_assoc _ _ _))⟩))))
        go_meet
        case rel => exact ⟨_, (!t57), zs, H', ⟨by have := HK1.out; first | omega | exact Nat.le_refl _⟩, ⟨by refine zQ ?_; refine blk_put (cs := #[.int .i64 ((rd_T51 l0 x3_1).f0), .int .i64 ((rd_T51 l0 x3_1).f1), .bool ((rd_T51 l0 x3_1).f2), .int .i64 0]) ?_ 3 _ rfl; refine zQ ?_; refine blk_put (cs := #[.int .i64 ((rd_T51 l0 x3_1).f0), .int .i64 ((rd_T51 l0 x3_1).f1), .bool false, .int .i64 0]) ?_ 2 _ rfl; refine zQ ?_; refine blk_put (cs := #[.int .i64 ((rd_T51 l0 x3_1).f0), .int .i64 0, .bool false, .int .i64 0]) ?_ 1 _ rfl; refine zQ ?_; refine blk_put (cs := #[.int .i64 0, .int .i64 0, .bool false, .int .i64 0]) ?_ 0 _ rfl; refine zQ ?_; exact BK34.out⟩, ⟨zb⟩⟩
       replace c14 := Bool.eq_false_iff.mpr c14
       subst c14
       have H1 : (spec_ChainFault.j1 k1 l0 x3_1 true ((rd_T51 l0 x3_1).f0) ((rd_T51 l0 x3_1).f1) ((rd_T51 l0 x3_1).f2) ((rd_T51 l0 x3_1).f3)) = some r := by rw [if_neg (show ¬ (false = true) by decide)] at H; exact H
       clear H
       have H := H1
       clear H1
       have H' := Aside0.mk H
       clear H
       obtain ⟨z17_0, z17_1, z17_2, z17_3, j17_0, j17_1, j17_2, j17_3⟩ := Go.Proofs.YtldlnafakfigeaaDoor.Lv.blks4 BK34.out
       go_wp2_with (first | (go_at_call 23; (with_reducible refine (spec_l5Txn.calls ((rd_T51 l0 x3_1).f0) true _ A8.out).mono ?_); rintro e w' ⟨rfl, ⟨nd, rfl⟩⟩; (try first | exact ⟨rfl, _, World.drewN_drewN _ _ _⟩ | exact ⟨rfl, _, Eq.trans (World.drewN_drewN _ _ _) (congrArg (World.drewN _) (Nat.add_assoc _ _ _))⟩)) | (go_at_call 70; (with_reducible refine (spec_l5At.calls ((rd_T51 l0 x3_1).f1) false _ A13.out).mono ?_); rintro e w' ⟨rfl, ⟨nd, rfl⟩⟩; (try first | exact ⟨rfl, _, World.drewN_drewN _ _ _⟩ | exact ⟨rfl, _, Eq.trans (World.drewN_drewN _ _ _) (congrArg (World.drewN _) (Nat.add_assoc _ _ _))⟩)))
       repeat (go_quiet (first | (go_at_call 23; (with_reducible refine (spec_l5Txn.calls ((rd_T51 l0 x3_1).f0) true _ A8.out).mono ?_); rintro e w' ⟨rfl, ⟨nd, rfl⟩⟩; (try first | exact ⟨rfl, _, World.drewN_drewN _ _ _⟩ | exact ⟨rfl, _, Eq.trans (World.drewN_drewN _ _ _) (congrArg (World.drewN _) (Nat.add_assoc _ _ _))⟩)) | (go_at_call 70; (with_reducible refine (spec_l5At.calls ((rd_T51 l0 x3_1).f1) false _ A13.out).mono ?_); rintro e w' ⟨rfl, ⟨nd, rfl⟩⟩; (try first | exact ⟨rfl, _, World.drewN_drewN _ _ _⟩ | exact ⟨rfl, _, Eq.trans (World.drewN_drewN _ _ _) (congrArg (World.drewN _) (Nat.add_assoc _ _ _))⟩))); try go_wp2_with (first | (go_at_call 23; (with_reducible refine (spec_l5Txn.calls ((rd_T51 l0 x3_1).f0) true _ A8.out).mono ?_); rintro e w' ⟨rfl, ⟨nd, rfl⟩⟩; (try first | exact ⟨rfl, _, World.drewN_drewN _ _ _⟩ | exact ⟨rfl, _, Eq.trans (World.drewN_drewN _ _ _) (congrArg (World.drewN _) (Nat.add_assoc _ _ _))⟩)) | (go_at_call 70; (with_reducible refine (spec_l5At.calls ((rd_T51 l0 x3_1).f1) false _ A13.out).mono ?_); rintro e w' ⟨rfl, ⟨nd, rfl⟩⟩; (try first | exact ⟨rfl, _, World.drewN_drewN _ _ _⟩ | exact ⟨rfl, _, Eq.trans (World.drewN_drewN _ _ _) (congrArg (World.drewN _) (Nat.add_assoc _ _ _))⟩))))
       go_meet
       case rel => exact ⟨_, (true), zs, H', ⟨by have := HK1.out; first | omega | exact Nat.le_refl _⟩, ⟨by refine zQ ?_; refine blk_put (cs := #[.int .i64 ((rd_T51 l0 x3_1).f0), .int .i64 ((rd_T51 l0 x3_1).f1), .bool ((rd_T51 l0 x3_1).f2), .int .i64 0]) ?_ 3 _ rfl; refine zQ ?_; refine blk_put (cs := #[.int .i64 ((rd_T51 l0 x3_1).f0), .int .i64 ((rd_T51 l0 x3_1).f1), .bool false, .int .i64 0]) ?_ 2 _ rfl; refine zQ ?_; refine blk_put (cs := #[.int .i64 ((rd_T51 l0 x3_1).f0), .int .i64 0, .bool false, .int .i64 0]) ?_ 1 _ rfl; refine zQ ?_; refine blk_put (cs := #[.int .i64 0, .int .i64 0, .bool false, .int .i64 0]) ?_ 0 _ rfl; refine zQ ?_; exact BK34.out⟩, ⟨zb⟩⟩
      replace c9 := Bool.eq_false_iff.mpr c9
      subst c9
      have H1 : (spec_ChainFault.j1 k1 l0 x3_1 true ((rd_T51 l0 x3_1).f0) ((rd_T51 l0 x3_1).f1) ((rd_T51 l0 x3_1).f2) ((rd_T51 l0 x3_1).f3)) = some r := by rw [if_neg (show ¬ (false = true) by decide)] at H; exact H
      clear H
      have H := H1
      clear H1
      have H' := Aside0.mk H
      clear H
      obtain ⟨z18_0, z18_1, z18_2, z18_3, j18_0, j18_1, j18_2, j18_3⟩ := Go.Proofs.YtldlnafakfigeaaDoor.Lv.blks4 BK34.out
      go_wp2_with (first | (go_at_call 23; (with_reducible refine (spec_l5Txn.calls ((rd_T51 l0 x3_1).f0) false _ A8.out).mono ?_); rintro e w' ⟨rfl, ⟨nd, rfl⟩⟩; (try first | exact ⟨rfl, _, World.drewN_drewN _ _ _⟩ | exact ⟨rfl, _, Eq.trans (World.drewN_drewN _ _ _) (congrArg (World.drewN _) (Nat.add_assoc _ _ _))⟩)))
      repeat (go_quiet (first | (go_at_call 23; (with_reducible refine (spec_l5Txn.calls ((rd_T51 l0 x3_1).f0) false _ A8.out).mono ?_); rintro e w' ⟨rfl, ⟨nd, rfl⟩⟩; (try first | exact ⟨rfl, _, World.drewN_drewN _ _ _⟩ | exact ⟨rfl, _, Eq.trans (World.drewN_drewN _ _ _) (congrArg (World.drewN _) (Nat.add_assoc _ _ _))⟩))); try go_wp2_with (first | (go_at_call 23; (with_reducible refine (spec_l5Txn.calls ((rd_T51 l0 x3_1).f0) false _ A8.out).mono ?_); rintro e w' ⟨rfl, ⟨nd, rfl⟩⟩; (try first | exact ⟨rfl, _, World.drewN_drewN _ _ _⟩ | exact ⟨rfl, _, Eq.trans (World.drewN_drewN _ _ _) (congrArg (World.drewN _) (Nat.add_assoc _ _ _))⟩))))
      go_meet
      case rel => exact ⟨_, (true), zs, H', ⟨by have := HK1.out; first | omega | exact Nat.le_refl _⟩, ⟨by refine zQ ?_; refine blk_put (cs := #[.int .i64 ((rd_T51 l0 x3_1).f0), .int .i64 ((rd_T51 l0 x3_1).f1), .bool ((rd_T51 l0 x3_1).f2), .int .i64 0]) ?_ 3 _ rfl; refine zQ ?_; refine blk_put (cs := #[.int .i64 ((rd_T51 l0 x3_1).f0), .int .i64 ((rd_T51 l0 x3_1).f1), .bool false, .int .i64 0]) ?_ 2 _ rfl; refine zQ ?_; refine blk_put (cs := #[.int .i64 ((rd_T51 l0 x3_1).f0), .int .i64 0, .bool false, .int .i64 0]) ?_ 1 _ rfl; refine zQ ?_; refine blk_put (cs := #[.int .i64 0, .int .i64 0, .bool false, .int .i64 0]) ?_ 0 _ rfl; refine zQ ?_; exact BK34.out⟩, ⟨zb⟩⟩
     case rest =>
      clear HC5
      try clear c1
      try clear p1
      try clear q1
      try clear hx1
      try clear c2
      try clear c2b0
      try clear c2b1
      try clear p2
      try clear c3
      try clear c3b0
      try clear c4
      try clear c4b0
      try clear c5
      try clear c9
      try clear c10
      try clear c10b0
      try clear c10b1
      try clear p11
      try clear q11
      try clear hx11
      try clear c14
      try clear z12_0 z12_1 z12_2 z12_3
      try clear z16_0 z16_1 z16_2 z16_3
      try clear z17_0 z17_1 z17_2 z17_3
      try clear z18_0 z18_1 z18_2 z18_3
      try clear z7_0 z7_1 z7_2 z7_3
      try clear j12_0 j12_1 j12_2 j12_3
      try clear j16_0 j16_1 j16_2 j16_3
      try clear j17_0 j17_1 j17_2 j17_3
      try clear j18_0 j18_1 j18_2 j18_3
      try clear j7_0 j7_1 j7_2 j7_3
      try clear hx56_0
      try clear hx56_1
      try clear hx56_2
      try clear hx56_3
      try clear p116
      try clear p2
      try clear q56
      obtain ⟨kq, x38_4, rfl, HA, HJ4, BK34, HB⟩ := hcut
      cases kq with
      | zero => exact absurd HA.out (by simp [spec_ChainFault.j1])
      | succ kj4 =>
       have H := HA.out
       clear HA
       simp only [spec_ChainFault.j1] at H
       by_cases c19 : x38_4 = true
       ·subst c19
        have H1 : (some 3) = some r := by rw [if_pos rfl] at H; exact H
        clear H
        have H := H1
        clear H1
        obtain rfl := Option.some.inj H
        go_wp2
        repeat (go_quiet (fail); try go_wp2)
        go_ret
        exact ⟨ze, zb⟩
       replace c19 := Bool.eq_false_iff.mpr c19
       subst c19
       have H1 : (if ((rd_T51 l0 x3_1).f2) = true then (if ((rd_T51 l0 x3_1).f3) = 0 then (if ((rd_T51 l0 x3_1).f1) = 0 then (if x3_1 > 0 then (some 1) else (spec_ChainFault.l0 kj4 l0 (wrap64 (x3_1 + 1)))) else (if x3_1 > 0 then (if 0 ≤ (wrap64 (x3_1 - 1)) then (if (wrap64 (x3_1 - 1)) < (l0.length : Int) then (if ((rd_T51 l0 (wrap64 (x3_1 - 1))).f1) = 0 then (spec_ChainFault.l0 kj4 l0 (wrap64 (x3_1 + 1))) else (if ((rd_T51 l0 x3_1).f1) ≥ ((rd_T51 l0 (wrap64 (x3_1 - 1))).f1) then (some 1) else (spec_ChainFault.l0 kj4 l0 (wrap64 (x3_1 + 1))))) else (none)) else (none)) else (spec_ChainFault.l0 kj4 l0 (wrap64 (x3_1 + 1))))) else (some 1)) else (if ((rd_T51 l0 x3_1).f1) = 0 then (if x3_1 > 0 then (some 1) else (spec_ChainFault.l0 kj4 l0 (wrap64 (x3_1 + 1)))) else (if x3_1 > 0 then (if 0 ≤ (wrap64 (x3_1 - 1)) then (if (wrap64 (x3_1 - 1)) < (l0.length : Int) then (if ((rd_T51 l0 (wrap64 (x3_1 - 1))).f1) = 0 then (spec_ChainFault.l0 kj4 l0 (wrap64 (x3_1 + 1))) else (if ((rd_T51 l0 x3_1).f1) ≥ ((rd_T51 l0 (wrap64 (x3_1 - 1))).f1) then (some 1) else (spec_ChainFault.l0 kj4 l0 (wrap64 (x3_1 + 1))))) else (none)) else (none)) else (spec_ChainFault.l0 kj4 l0 (wrap64 (x3_1 + 1)))))) = some r := by rw [if_neg (show ¬ (false = true) by decide)] at H; exact H
       clear H
       have H := H1
       clear H1
       by_cases c20 : ((rd_T51 l0 x3_1).f2) = true
       ·rw [if_pos c20] at H
        have c20b0 : ((rd_T51 l0 x3_1).f2) = true := c20
        clear c20
        by_cases c21 : ((rd_T51 l0 x3_1).f3) = 0
        ·rw [if_pos c21] at H
         have c21b0 : (((rd_T51 l0 x3_1).f3) == 0) = true := beq_iff_eq.mpr c21
         have c21b1 : (((rd_T51 l0 x3_1).f3) != 0) = false := bne_eq_false_iff_eq.mpr c21
         clear c21
         by_cases c22 : ((rd_T51 l0 x3_1).f1) = 0
         ·rw [if_pos c22] at H
          have c22b0 : (((rd_T51 l0 x3_1).f1) == 0) = true := beq_iff_eq.mpr c22
          have c22b1 : (((rd_T51 l0 x3_1).f1) != 0) = false := bne_eq_false_iff_eq.mpr c22
          clear c22
          by_cases c23 : x3_1 > 0
          ·rw [if_pos c23] at H
           have c23b0 : decide (0 < x3_1) = true := decide_eq_true c23
           clear c23
           obtain rfl := Option.some.inj H
           obtain ⟨z24_0, z24_1, z24_2, z24_3, j24_0, j24_1, j24_2, j24_3⟩ := Go.Proofs.YtldlnafakfigeaaDoor.Lv.blks4 BK34.out
           go_wp2
           repeat (go_quiet (fail); try go_wp2)
           go_ret
           exact ⟨ze, zb⟩
          rw [if_neg c23] at H
          have c23b0 : decide (0 < x3_1) = false := decide_eq_false c23
          clear c23
          have H' := Aside0.mk H
          clear H
          obtain ⟨z25_0, z25_1, z25_2, z25_3, j25_0, j25_1, j25_2, j25_3⟩ := Go.Proofs.YtldlnafakfigeaaDoor.Lv.blks4 BK34.out
          go_wp2
          repeat (go_quiet (fail); try go_wp2)
          go_roundg kj4
          case measure => have := HK1.out; have := HJ4.out; omega
          case rel => exact ⟨(wrap64 (x3_1 + 1)), zs, H', ⟨by have := HK1.out; have := HJ4.out; omega⟩, ⟨zb⟩⟩
         rw [if_neg c22] at H
         have c22b0 : (((rd_T51 l0 x3_1).f1) == 0) = false := beq_eq_false_iff_ne.mpr c22
         have c22b1 : (((rd_T51 l0 x3_1).f1) != 0) = true := bne_iff_ne.mpr c22
         by_cases c26 : x3_1 > 0
         ·rw [if_pos c26] at H
          have c26b0 : decide (0 < x3_1) = true := decide_eq_true c26
          clear c26
          obtain ⟨ji27, hji27⟩ : ∃ j_ : Int, (wrap64 (x3_1 - 1)) = j_ := ⟨_, rfl⟩
          replace H : (if 0 ≤ (ji27) then (if (ji27) < (l0.length : Int) then (if ((rd_T51 l0 (ji27)).f1) = 0 then (spec_ChainFault.l0 kj4 l0 (wrap64 (x3_1 + 1))) else (if ((rd_T51 l0 x3_1).f1) ≥ ((rd_T51 l0 (ji27)).f1) then (some 1) else (spec_ChainFault.l0 kj4 l0 (wrap64 (x3_1 + 1))))) else (none)) else (none)) = some r := by first | (rw [hji27] at H; exact H) | (simp only [hji27] at H ⊢; exact H)
          have hji27w : (IntKind.i64.wrap (x3_1 - 1)) = ji27 := (i64_w _).trans hji27
          by_cases c28 : 0 ≤ (ji27)
          ·rw [if_pos c28] at H
           have c28b0 : decide (0 ≤ (ji27)) = true := decide_eq_true c28
           clear c28
           by_cases c29 : (ji27) < (l0.length : Int)
           ·rw [if_pos c29] at H
            have c29b0 : decide ((ji27) < (l0.length : Int)) = true := decide_eq_true c29
            clear c29
            by_cases c30 : ((rd_T51 l0 (ji27)).f1) = 0
            ·rw [if_pos c30] at H
             have c30b0 : (((rd_T51 l0 (ji27)).f1) == 0) = true := beq_iff_eq.mpr c30
             have c30b1 : (((rd_T51 l0 (ji27)).f1) != 0) = false := bne_eq_false_iff_eq.mpr c30
             clear c30
             have H' := Aside0.mk H
             clear H
             obtain ⟨z31_0, z31_1, z31_2, z31_3, j31_0, j31_1, j31_2, j31_3⟩ := Go.Proofs.YtldlnafakfigeaaDoor.Lv.blks4 BK34.out
             have p122 : 0 ≤ ((ji27) : Int) := of_decide_eq_true za
             have q49 : (ji27) < (l0.length : Int) := of_decide_eq_true za
             obtain ⟨ad49, e122, hx49_0, hx49_1, hx49_2, hx49_3⟩ := at_T51 HR0.out (ji27) p122 q49
             obtain rfl : ad56 = ad49 := (by injection e122)
             replace hx49_0 := zx HB hx49_0
             replace hx49_1 := zx HB hx49_1
             replace hx49_2 := zx HB hx49_2
             replace hx49_3 := zx HB hx49_3
             replace p122 := eq_true p122
             replace q49 := eq_true q49
             go_wp2
             repeat (go_quiet (fail); try go_wp2)
             go_roundg kj4
             case measure => have := HK1.out; have := HJ4.out; omega
             case rel => exact ⟨(wrap64 (x3_1 + 1)), zs, H', ⟨by have := HK1.out; have := HJ4.out; omega⟩, ⟨zb⟩⟩
            rw [if_neg c30] at H
            have c30b0 : (((rd_T51 l0 (ji27)).f1) == 0) = false := beq_eq_false_iff_ne.mpr c30
            have c30b1 : (((rd_T51 l0 (ji27)).f1) != 0) = true := bne_iff_ne.mpr c30
            have HX_ := Aside0.mk H
            clear H
            obtain ⟨z33_0, z33_1, z33_2, z33_3, j33_0, j33_1, j33_2, j33_3⟩ := Go.Proofs.YtldlnafakfigeaaDoor.Lv.blks4 BK34.out
            have p122 : 0 ≤ ((ji27) : Int) := of_decide_eq_true za
            have q49 : (ji27) < (l0.length : Int) := of_decide_eq_true za
            obtain ⟨ad49, e122, hx49_0, hx49_1, hx49_2, hx49_3⟩ := at_T51 HR0.out (ji27) p122 q49
            obtain rfl : ad56 = ad49 := (by injection e122)
            replace hx49_0 := zx HB hx49_0
            replace hx49_1 := zx HB hx49_1
            replace hx49_2 := zx HB hx49_2
            replace hx49_3 := zx HB hx49_3
            replace p122 := eq_true p122
            replace q49 := eq_true q49
            have p123 : 0 ≤ ((ji27) : Int) := of_decide_eq_true za
            have q54 : (ji27) < (l0.length : Int) := of_decide_eq_true za
            obtain ⟨ad54, e123, hx54_0, hx54_1, hx54_2, hx54_3⟩ := at_T51 HR0.out (ji27) p123 q54
            obtain rfl : ad56 = ad54 := (by injection e123)
            replace hx54_0 := zx HB hx54_0
            replace hx54_1 := zx HB hx54_1
            replace hx54_2 := zx HB hx54_2
            replace hx54_3 := zx HB hx54_3
            replace p123 := eq_true p123
            replace q54 := eq_true q54
            have H := HX_.out
            clear HX_
            by_cases c32 : ((rd_T51 l0 x3_1).f1) ≥ ((rd_T51 l0 (ji27)).f1)
            ·rw [if_pos c32] at H
             have c32b0 : decide (((rd_T51 l0 (ji27)).f1) ≤ ((rd_T51 l0 x3_1).f1)) = true := decide_eq_true c32
             clear c32
             obtain rfl := Option.some.inj H
             go_wp2
             repeat (go_quiet (fail); try go_wp2)
             go_ret
             exact ⟨by first | rfl | (simp [errW_none, errW_some] <;> rfl) | (simp only [← hji27]; first | rfl | (simp [errW_none, errW_some] <;> rfl)) | (simp [*, errW_none, errW_some] <;> rfl), zb⟩
            rw [if_neg c32] at H
            have c32b0 : decide (((rd_T51 l0 (ji27)).f1) ≤ ((rd_T51 l0 x3_1).f1)) = false := decide_eq_false c32
            clear c32
            have H' := Aside0.mk H
            clear H
            go_wp2
            repeat (go_quiet (fail); try go_wp2)
            go_roundg kj4
            case measure => have := HK1.out; have := HJ4.out; omega
            case rel => exact ⟨(wrap64 (x3_1 + 1)), zs, H', ⟨by have := HK1.out; have := HJ4.out; omega⟩, ⟨zb⟩⟩
           rw [if_neg c29] at H
           exact absurd H (by simp)
          rw [if_neg c28] at H
          exact absurd H (by simp)
         rw [if_neg c26] at H
         have c26b0 : decide (0 < x3_1) = false := decide_eq_false c26
         clear c26
         have H' := Aside0.mk H
         clear H
         obtain ⟨z35_0, z35_1, z35_2, z35_3, j35_0, j35_1, j35_2, j35_3⟩ := Go.Proofs.YtldlnafakfigeaaDoor.Lv.blks4 BK34.out
         go_wp2
         repeat (go_quiet (fail); try go_wp2)
         go_roundg kj4
         case measure => have := HK1.out; have := HJ4.out; omega
         case rel => exact ⟨(wrap64 (x3_1 + 1)), zs, H', ⟨by have := HK1.out; have := HJ4.out; omega⟩, ⟨zb⟩⟩
        rw [if_neg c21] at H
        have c21b0 : (((rd_T51 l0 x3_1).f3) == 0) = false := beq_eq_false_iff_ne.mpr c21
        have c21b1 : (((rd_T51 l0 x3_1).f3) != 0) = true := bne_iff_ne.mpr c21
        obtain rfl := Option.some.inj H
        obtain ⟨z36_0, z36_1, z36_2, z36_3, j36_0, j36_1, j36_2, j36_3⟩ := Go.Proofs.YtldlnafakfigeaaDoor.Lv.blks4 BK34.out
        go_wp2
        repeat (go_quiet (fail); try go_wp2)
        go_ret
        exact ⟨ze, zb⟩
       rw [if_neg c20] at H
       have c20b0 : ((rd_T51 l0 x3_1).f2) = false := by simpa using c20
       clear c20
       by_cases c37 : ((rd_T51 l0 x3_1).f1) = 0
       ·rw [if_pos c37] at H
        have c37b0 : (((rd_T51 l0 x3_1).f1) == 0) = true := beq_iff_eq.mpr c37
        have c37b1 : (((rd_T51 l0 x3_1).f1) != 0) = false := bne_eq_false_iff_eq.mpr c37
        clear c37
        by_cases c38 : x3_1 > 0
        ·rw [if_pos c38] at H
         have c38b0 : decide (0 < x3_1) = true := decide_eq_true c38
         clear c38
         obtain rfl := Option.some.inj H
         obtain ⟨z39_0, z39_1, z39_2, z39_3, j39_0, j39_1, j39_2, j39_3⟩ := Go.Proofs.YtldlnafakfigeaaDoor.Lv.blks4 BK34.out
         go_wp2
         repeat (go_quiet (fail); try go_wp2)
         go_ret
         exact ⟨ze, zb⟩
        rw [if_neg c38] at H
        have c38b0 : decide (0 < x3_1) = false := decide_eq_false c38
        clear c38
        have H' := Aside0.mk H
        clear H
        obtain ⟨z40_0, z40_1, z40_2, z40_3, j40_0, j40_1, j40_2, j40_3⟩ := Go.Proofs.YtldlnafakfigeaaDoor.Lv.blks4 BK34.out
        go_wp2
        repeat (go_quiet (fail); try go_wp2)
        go_roundg kj4
        case measure => have := HK1.out; have := HJ4.out; omega
        case rel => exact ⟨(wrap64 (x3_1 + 1)), zs, H', ⟨by have := HK1.out; have := HJ4.out; omega⟩, ⟨zb⟩⟩
       rw [if_neg c37] at H
       have c37b0 : (((rd_T51 l0 x3_1).f1) == 0) = false := beq_eq_false_iff_ne.mpr c37
       have c37b1 : (((rd_T51 l0 x3_1).f1) != 0) = true := bne_iff_ne.mpr c37
       by_cases c41 : x3_1 > 0
       ·rw [if_pos c41] at H
        have c41b0 : decide (0 < x3_1) = true := decide_eq_true c41
        clear c41
        obtain ⟨ji42, hji42⟩ : ∃ j_ : Int, (wrap64 (x3_1 - 1)) = j_ := ⟨_, rfl⟩
        replace H : (if 0 ≤ (ji42) then (if (ji42) < (l0.length : Int) then (if ((rd_T51 l0 (ji42)).f1) = 0 then (spec_ChainFault.l0 kj4 l0 (wrap64 (x3_1 + 1))) else (if ((rd_T51 l0 x3_1).f1) ≥ ((rd_T51 l0 (ji42)).f1) then (some 1) else (spec_ChainFault.l0 kj4 l0 (wrap64 (x3_1 + 1))))) else (none)) else (none)) = some r := by first | (rw [hji42] at H; exact H) | (simp only [hji42] at H ⊢; exact H)
        have hji42w : (IntKind.i64.wrap (x3_1 - 1)) = ji42 := (i64_w _).trans hji42
        by_cases c43 : 0 ≤ (ji42)
        ·rw [if_pos c43] at H
         have c43b0 : decide (0 ≤ (ji42)) = true := decide_eq_true c43
         clear c43
         by_cases c44 : (ji42) < (l0.length : Int)
         ·rw [if_pos c44] at H
          have c44b0 : decide ((ji42) < (l0.length : Int)) = true := decide_eq_true c44
          clear c44
          by_cases c45 : ((rd_T51 l0 (ji42)).f1) = 0
          ·rw [if_pos c45] at H
           have c45b0 : (((rd_T51 l0 (ji42)).f1) == 0) = true := beq_iff_eq.mpr c45
           have c45b1 : (((rd_T51 l0 (ji42)).f1) != 0) = false := bne_eq_false_iff_eq.mpr c45
           clear c45
           have H' := Aside0.mk H
           clear H
           obtain ⟨z46_0, z46_1, z46_2, z46_3, j46_0, j46_1, j46_2, j46_3⟩ := Go.Proofs.YtldlnafakfigeaaDoor.Lv.blks4 BK34.out
           have p124 : 0 ≤ ((ji42) : Int) := of_decide_eq_true za
           have q52 : (ji42) < (l0.length : Int) := of_decide_eq_true za
           obtain ⟨ad52, e124, hx52_0, hx52_1, hx52_2, hx52_3⟩ := at_T51 HR0.out (ji42) p124 q52
           obtain rfl : ad56 = ad52 := (by injection e124)
           replace hx52_0 := zx HB hx52_0
           replace hx52_1 := zx HB hx52_1
           replace hx52_2 := zx HB hx52_2
           replace hx52_3 := zx HB hx52_3
           replace p124 := eq_true p124
           replace q52 := eq_true q52
           go_wp2
           repeat (go_quiet (fail); try go_wp2)
           go_roundg kj4
           case measure => have := HK1.out; have := HJ4.out; omega
           case rel => exact ⟨(wrap64 (x3_1 + 1)), zs, H', ⟨by have := HK1.out; have := HJ4.out; omega⟩, ⟨zb⟩⟩
          rw [if_neg c45] at H
          have c45b0 : (((rd_T51 l0 (ji42)).f1) == 0) = false := beq_eq_false_iff_ne.mpr c45
          have c45b1 : (((rd_T51 l0 (ji42)).f1) != 0) = true := bne_iff_ne.mpr c45
          have HX_ := Aside0.mk H
          clear H
          obtain ⟨z48_0, z48_1, z48_2, z48_3, j48_0, j48_1, j48_2, j48_3⟩ := Go.Proofs.YtldlnafakfigeaaDoor.Lv.blks4 BK34.out
          have p124 : 0 ≤ ((ji42) : Int) := of_decide_eq_true za
          have q52 : (ji42) < (l0.length : Int) := of_decide_eq_true za
          obtain ⟨ad52, e124, hx52_0, hx52_1, hx52_2, hx52_3⟩ := at_T51 HR0.out (ji42) p124 q52
          obtain rfl : ad56 = ad52 := (by injection e124)
          replace hx52_0 := zx HB hx52_0
          replace hx52_1 := zx HB hx52_1
          replace hx52_2 := zx HB hx52_2
          replace hx52_3 := zx HB hx52_3
          replace p124 := eq_true p124
          replace q52 := eq_true q52
          have p125 : 0 ≤ ((ji42) : Int) := of_decide_eq_true za
          have q55 : (ji42) < (l0.length : Int) := of_decide_eq_true za
          obtain ⟨ad55, e125, hx55_0, hx55_1, hx55_2, hx55_3⟩ := at_T51 HR0.out (ji42) p125 q55
          obtain rfl : ad56 = ad55 := (by injection e125)
          replace hx55_0 := zx HB hx55_0
          replace hx55_1 := zx HB hx55_1
          replace hx55_2 := zx HB hx55_2
          replace hx55_3 := zx HB hx55_3
          replace p125 := eq_true p125
          replace q55 := eq_true q55
          have H := HX_.out
          clear HX_
          by_cases c47 : ((rd_T51 l0 x3_1).f1) ≥ ((rd_T51 l0 (ji42)).f1)
          ·rw [if_pos c47] at H
           have c47b0 : decide (((rd_T51 l0 (ji42)).f1) ≤ ((rd_T51 l0 x3_1).f1)) = true := decide_eq_true c47
           clear c47
           obtain rfl := Option.some.inj H
           go_wp2
           repeat (go_quiet (fail); try go_wp2)
           go_ret
           exact ⟨by first | rfl | (simp [errW_none, errW_some] <;> rfl) | (simp only [← hji42]; first | rfl | (simp [errW_none, errW_some] <;> rfl)) | (simp [*, errW_none, errW_some] <;> rfl), zb⟩
          rw [if_neg c47] at H
          have c47b0 : decide (((rd_T51 l0 (ji42)).f1) ≤ ((rd_T51 l0 x3_1).f1)) = false := decide_eq_false c47
          clear c47
          have H' := Aside0.mk H
          clear H
          go_wp2
          repeat (go_quiet (fail); try go_wp2)
          go_roundg kj4
          case measure => have := HK1.out; have := HJ4.out; omega
          case rel => exact ⟨(wrap64 (x3_1 + 1)), zs, H', ⟨by have := HK1.out; have := HJ4.out; omega⟩, ⟨zb⟩⟩
         rw [if_neg c44] at H
         exact absurd H (by simp)
        rw [if_neg c43] at H
        exact absurd H (by simp)
       rw [if_neg c41] at H
       have c41b0 : decide (0 < x3_1) = false := decide_eq_false c41
       clear c41
       have H' := Aside0.mk H
       clear H
       obtain ⟨z50_0, z50_1, z50_2, z50_3, j50_0, j50_1, j50_2, j50_3⟩ := Go.Proofs.YtldlnafakfigeaaDoor.Lv.blks4 BK34.out
       go_wp2
       repeat (go_quiet (fail); try go_wp2)
       go_roundg kj4
       case measure => have := HK1.out; have := HJ4.out; omega
       case rel => exact ⟨(wrap64 (x3_1 + 1)), zs, H', ⟨by have := HK1.out; have := HJ4.out; omega⟩, ⟨zb⟩⟩
    rw [if_neg c4] at H
    exact absurd H (by simp)
   rw [if_neg c3] at H
   have c3b0 : decide (x3_1 < (l0.length : Int)) = false := decide_eq_false c3
   clear c3
   obtain rfl := Option.some.inj H
   go_wp2
   repeat (go_quiet (fail); try go_wp2)
   go_ret
   exact ⟨ze, zb⟩
set_option maxHeartbeats 8000000 in
set_option maxRecDepth 100000 in
theorem spec_l5Writer.calls (A0 : Option Addr) (c0 : Nat) (l0 : List (S51)) (r : Int) (w : World) (hr0 : Kd.C k51 w A0 l0.length l0) (hc0 : l0.length ≤ c0) (h : spec_l5Writer.f l0 = some r) :
 Calls Tryd.prog 56 #[.slice A0 l0.length c0] w fun e w' => e = .returned (.int .i64 r) ∧ Drawn0 w w' := by
 have HR0 := Aside0.mk hr0
 have HC0 := Aside0.mk hc0
 clear hr0 hc0
 have H : (if (l0.length : Int) > 0 then (if 0 < (l0.length : Int) then (if ((rd_T51 l0 0).f1) = 0 then (some ((rd_T51 l0 0).f0)) else (some 0)) else (none)) else (some 0)) = some r := h
 clear h
 by_cases c2 : (l0.length : Int) > 0
 ·rw [if_pos c2] at H
  have c2b0 : decide (0 < (l0.length : Int)) = true := decide_eq_true c2
  have c2b1 : decide (0 < l0.length) = true := decide_eq_true (by omega)
  clear c2
  by_cases c3 : 0 < (l0.length : Int)
  ·rw [if_pos c3] at H
   have c3b0 : decide (0 < (l0.length : Int)) = true := decide_eq_true c3
   have c3b1 : decide (0 < l0.length) = true := decide_eq_true (by omega)
   clear c3
   by_cases c4 : ((rd_T51 l0 0).f1) = 0
   ·rw [if_pos c4] at H
    have c4b0 : (((rd_T51 l0 0).f1) == 0) = true := beq_iff_eq.mpr c4
    have c4b1 : (((rd_T51 l0 0).f1) != 0) = false := bne_eq_false_iff_eq.mpr c4
    clear c4
    obtain rfl := Option.some.inj H
    have p126 : 0 ≤ (0 : Int) := (by omega)
    have q6 : 0 < (l0.length : Int) := of_decide_eq_true za
    obtain ⟨ad6, e126, hx6_0, hx6_1, hx6_2, hx6_3⟩ := at_T51 HR0.out 0 p126 q6
    cases e126
    have qi126 : (0 < l0.length) = True := eq_true (by omega)
    (try rw [show ((0 : Int)).toNat = 0 from rfl] at hx6_0 hx6_1 hx6_2 hx6_3)
    (try rw [show 0 * 4 = 0 from rfl] at hx6_0 hx6_1 hx6_2 hx6_3)
    (try rw [Addr.add_zero'] at hx6_0 hx6_1 hx6_2 hx6_3)
    replace p126 := eq_true p126
    replace q6 := eq_true q6
    have p127 : 0 ≤ (0 : Int) := (by omega)
    have q7 : 0 < (l0.length : Int) := of_decide_eq_true za
    obtain ⟨ad7, e127, hx7_0, hx7_1, hx7_2, hx7_3⟩ := at_T51 HR0.out 0 p127 q7
    obtain rfl : ad6 = ad7 := (by injection e127)
    have qi127 : (0 < l0.length) = True := eq_true (by omega)
    (try rw [show ((0 : Int)).toNat = 0 from rfl] at hx7_0 hx7_1 hx7_2 hx7_3)
    (try rw [show 0 * 4 = 0 from rfl] at hx7_0 hx7_1 hx7_2 hx7_3)
    (try rw [Addr.add_zero'] at hx7_0 hx7_1 hx7_2 hx7_3)
    replace p127 := eq_true p127
    replace q7 := eq_true q7
    go_enter Tryd.func56, Tryd.ntmps56
    go_wp2
    go_ret
    exact ⟨zs, zd⟩
   rw [if_neg c4] at H
   have c4b0 : (((rd_T51 l0 0).f1) == 0) = false := beq_eq_false_iff_ne.mpr c4
   have c4b1 : (((rd_T51 l0 0).f1) != 0) = true := bne_iff_ne.mpr c4
   obtain rfl := Option.some.inj H
   have p126 : 0 ≤ (0 : Int) := (by omega)
   have q6 : 0 < (l0.length : Int) := of_decide_eq_true za
   obtain ⟨ad6, e126, hx6_0, hx6_1, hx6_2, hx6_3⟩ := at_T51 HR0.out 0 p126 q6
   cases e126
   have qi126 : (0 < l0.length) = True := eq_true (by omega)
   (try rw [show ((0 : Int)).toNat = 0 from rfl] at hx6_0 hx6_1 hx6_2 hx6_3)
   (try rw [show 0 * 4 = 0 from rfl] at hx6_0 hx6_1 hx6_2 hx6_3)
   (try rw [Addr.add_zero'] at hx6_0 hx6_1 hx6_2 hx6_3)
   replace p126 := eq_true p126
   replace q6 := eq_true q6
   go_enter Tryd.func56, Tryd.ntmps56
   go_wp2
   go_ret
   exact ⟨zs, zd⟩
  rw [if_neg c3] at H
  exact absurd H (by simp)
 rw [if_neg c2] at H
 have c2b0 : decide (0 < (l0.length : Int)) = false := decide_eq_false c2
 have c2b1 : decide (0 < l0.length) = false := decide_eq_false (by omega)
 clear c2
 obtain rfl := Option.some.inj H
 go_enter Tryd.func56, Tryd.ntmps56
 go_wp2
 go_ret
 exact ⟨zs, zd⟩
end Go.Proofs.YtldlnafakfigeaaDoor.P
