import Derived.Test.YtocdahbinombkaaGreatZz
import Derived.Test.YtocdahbinombkaaGreatP0
import Derived.Test.YtocdahbinombkaaGreatPCall0
import Derived.Test.YtocdahbinombkaaGreatPDall0
import Derived.Test.YtocdahbinombkaaGreatWRepsOne
import Derived.Test.YtocdahbinombkaaGreatLv
namespace Go.Proofs.YtocdahbinombkaaGreat.P
open Go.RowKit Go.Proofs.YtocdahbinombkaaGreatW.PrintWords Go.Proofs.YtocdahbinombkaaGreatW.PrintLast Go.Proofs.YtocdahbinombkaaGreatW.PrintMore
attribute [local go_sem] max2_int min2_int max_two min_two max_three min_three max_four min_four   -- for this text's walks alone
set_option linter.unusedVariables false
set_option linter.unusedSimpArgs false
set_option maxHeartbeats 40000000 in
set_option maxRecDepth 100000 in
theorem spec_ChainFault.calls (k : Nat) (A0 : Option Addr) (c0 : Nat) (l0 : List (S89)) (r : Int) (w : World) (hr0 : Kd.C k89 w A0 l0.length l0) (hc0 : l0.length ≤ c0) (h : spec_ChainFault.f k l0 = some r) :
 Calls Tryz.prog 82 #[.slice A0 l0.length c0] w fun e w' => e = .returned (.int .i64 r) ∧ Below w.heap.size w w' := by
 have hu89 := Tryz.underlying89
 have HR0 := Aside0.mk hr0
 have HC0 := Aside0.mk hc0
 clear hr0 hc0
 have HB := Aside0.mk (Below.refl w.heap.size w)
 have H : (if (l0.length : Int) > 12 then (some 2) else (spec_ChainFault.l0 k l0 0)) = some r := h
 clear h
 by_cases c2 : (l0.length : Int) > 12
 ·rw [if_pos c2] at H
  have c2b0 : decide (12 < (l0.length : Int)) = true := decide_eq_true c2
  have c2b1 : decide (12 < l0.length) = true := decide_eq_true (by omega)
  clear c2
  obtain rfl := Option.some.inj H
  go_enter Tryz.func82, Tryz.ntmps82
  go_wp2
  repeat (go_quiet (fail); try go_wp2)
  go_ret
  exact ⟨ze, zb⟩
 rw [if_neg c2] at H
 have c2b0 : decide (12 < (l0.length : Int)) = false := decide_eq_false c2
 have c2b1 : decide (12 < l0.length) = false := decide_eq_false (by omega)
 clear c2
 have H' := Aside0.mk H
 clear H
 go_enter Tryz.func82, Tryz.ntmps82
 go_wp2
 repeat (go_quiet (fail); try go_wp2)
 go_loopg [3] k (fun kq v3 w' => ∃ (x3_1 : Int), v3 = .int .i64 x3_1 ∧ Aside0 (spec_ChainFault.l0 kq l0 x3_1 = some r) ∧ Aside0 (kq ≤ k) ∧ Aside0 (Below w.heap.size w w'))
 case atStart => exact ⟨(0), zs, H', ⟨Nat.le_refl _⟩, ⟨zb⟩⟩
 case round =>
  clear H'
  try clear c2
  try clear c2b0
  try clear c2b1
  try clear p2
  obtain ⟨x3_1, rfl, HA, HK1, HB⟩ := hrel
  cases gk with
  | zero => exact absurd HA.out (by simp [spec_ChainFault.l0])
  | succ k1 =>
   have H := HA.out
   clear HA
   simp only [spec_ChainFault.l0] at H
   by_cases c3 : x3_1 < (l0.length : Int)
   ·rw [if_pos c3] at H
    have c3b0 : decide (x3_1 < (l0.length : Int)) = true := decide_eq_true c3
    clear c3
    by_cases c4 : 0 ≤ x3_1
    ·rw [if_pos c4] at H
     have c4b0 : decide (0 ≤ x3_1) = true := decide_eq_true c4
     clear c4
     have HC5 := Aside0.mk H
     clear H
     have p116 : 0 ≤ (x3_1 : Int) := of_decide_eq_true za
     have q54 : x3_1 < (l0.length : Int) := of_decide_eq_true za
     obtain ⟨ad54, e116, hx54_0, hx54_1, hx54_2, hx54_3⟩ := at_T89 (Kd.C_below HR0.out HB.out) x3_1 p116 q54
     cases e116
     replace p116 := eq_true p116
     replace q54 := eq_true q54
     go_upto_region 7 with (first | ((with_reducible refine gate_dst (N := 4) rfl ?_); refine box_event ?hg (N := 4) ?hd (cs := #[.int .i64 0, .int .i64 0, .bool false, .int .i64 0]) (t := 89) ?hr ?_; (case hd => rfl); (case hg => rfl); (case hr => first | (go_simp; done) | (go_simp; rfl)); intro gb34 hg w6 hbox hb; have n0_ := Aside0.mk (below_step zb hb); have n1_ := Aside0.mk (hbox); have n2_ := Aside0.mk ((by rw [hg]; exact (below_size zb) : w.heap.size ≤ gb34)); have n3_ := n2_; clear HB; have HB := n0_; have BK34 := n1_; have GW34 := n2_; have GE34 := n3_; clear n0_ n1_ n2_ n3_; clear hb hbox hg; obtain ⟨hcz7_0, hcz7_1, hcz7_2, hcz7_3, hfz7_0, hfz7_1, hfz7_2, hfz7_3⟩ := Go.Proofs.YtocdahbinombkaaGreat.Lv.blks4 BK34.out))
     repeat (go_quiet (first | ((with_reducible refine gate_dst (N := 4) rfl ?_); refine box_event ?hg (N := 4) ?hd (cs := #[.int .i64 0, .int .i64 0, .bool false, .int .i64 0]) (t := 89) ?hr ?_; (case hd => rfl); (case hg => rfl); (case hr => first | (go_simp; done) | (go_simp; rfl)); intro gb34 hg w6 hbox hb; have n0_ := Aside0.mk (below_step zb hb); have n1_ := Aside0.mk (hbox); have n2_ := Aside0.mk ((by rw [hg]; exact (below_size zb) : w.heap.size ≤ gb34)); have n3_ := n2_; clear HB; have HB := n0_; have BK34 := n1_; have GW34 := n2_; have GE34 := n3_; clear n0_ n1_ n2_ n3_; clear hb hbox hg; obtain ⟨hcz7_0, hcz7_1, hcz7_2, hcz7_3, hfz7_0, hfz7_1, hfz7_2, hfz7_3⟩ := Go.Proofs.YtocdahbinombkaaGreat.Lv.blks4 BK34.out)); go_upto_region 7 with (first | ((with_reducible refine gate_dst (N := 4) rfl ?_); refine box_event ?hg (N := 4) ?hd (cs := #[.int .i64 0, .int .i64 0, .bool false, .int .i64 0]) (t := 89) ?hr ?_; (case hd => rfl); (case hg => rfl); (case hr => first | (go_simp; done) | (go_simp; rfl)); intro gb34 hg w6 hbox hb; have n0_ := Aside0.mk (below_step zb hb); have n1_ := Aside0.mk (hbox); have n2_ := Aside0.mk ((by rw [hg]; exact (below_size zb) : w.heap.size ≤ gb34)); have n3_ := n2_; clear HB; have HB := n0_; have BK34 := n1_; have GW34 := n2_; have GE34 := n3_; clear n0_ n1_ n2_ n3_; clear hb hbox hg; obtain ⟨hcz7_0, hcz7_1, hcz7_2, hcz7_3, hfz7_0, hfz7_1, hfz7_2, hfz7_3⟩ := Go.Proofs.YtocdahbinombkaaGreat.Lv.blks4 BK34.out)))
     (try simp only [Act.put, List.setIfInBounds_toArray, List.set_cons_zero, List.set_cons_succ])
     go_cut [38] (fun v38 wc => ∃ (kq : Nat) (x38_4 : Bool), v38 = .bool x38_4 ∧ Aside0 (spec_ChainFault.j1 kq l0 x3_1 x38_4 ((rd_T89 l0 x3_1).f0) ((rd_T89 l0 x3_1).f1) ((rd_T89 l0 x3_1).f2) ((rd_T89 l0 x3_1).f3) = some r) ∧ Aside0 (kq ≤ k1) ∧ Aside0 (wc.heap[gb34]? = some (.cells #[.int .i64 ((rd_T89 l0 x3_1).f0), .int .i64 ((rd_T89 l0 x3_1).f1), .bool ((rd_T89 l0 x3_1).f2), .int .i64 ((rd_T89 l0 x3_1).f3)] 89 (0, 0))) ∧ Aside0 (Below w.heap.size w wc))
     case first =>
      have H := HC5.out
      clear HC5
      replace H := Option.bind_eq_some_iff.mp H
      obtain ⟨t58, A80, H⟩ := H
      replace H : (if t58 = true then (if ((rd_T89 l0 x3_1).f1) = 0 then ((spec_l1Value.f ((rd_T89 l0 x3_1).f3)).bind fun t56 => (spec_ChainFault.j1 k1 l0 x3_1 (!t56) ((rd_T89 l0 x3_1).f0) ((rd_T89 l0 x3_1).f1) ((rd_T89 l0 x3_1).f2) ((rd_T89 l0 x3_1).f3))) else ((spec_l5At.f ((rd_T89 l0 x3_1).f1)).bind fun t57 => (if t57 = true then ((spec_l1Value.f ((rd_T89 l0 x3_1).f3)).bind fun t55 => (spec_ChainFault.j1 k1 l0 x3_1 (!t55) ((rd_T89 l0 x3_1).f0) ((rd_T89 l0 x3_1).f1) ((rd_T89 l0 x3_1).f2) ((rd_T89 l0 x3_1).f3))) else (spec_ChainFault.j1 k1 l0 x3_1 true ((rd_T89 l0 x3_1).f0) ((rd_T89 l0 x3_1).f1) ((rd_T89 l0 x3_1).f2) ((rd_T89 l0 x3_1).f3))))) else (spec_ChainFault.j1 k1 l0 x3_1 true ((rd_T89 l0 x3_1).f0) ((rd_T89 l0 x3_1).f1) ((rd_T89 l0 x3_1).f2) ((rd_T89 l0 x3_1).f3))) = some r := H
      have A8 := Aside0.mk A80
      clear A80
      by_cases c9 : t58 = true
      ·subst c9
       have H1 : (if ((rd_T89 l0 x3_1).f1) = 0 then ((spec_l1Value.f ((rd_T89 l0 x3_1).f3)).bind fun t56 => (spec_ChainFault.j1 k1 l0 x3_1 (!t56) ((rd_T89 l0 x3_1).f0) ((rd_T89 l0 x3_1).f1) ((rd_T89 l0 x3_1).f2) ((rd_T89 l0 x3_1).f3))) else ((spec_l5At.f ((rd_T89 l0 x3_1).f1)).bind fun t57 => (if t57 = true then ((spec_l1Value.f ((rd_T89 l0 x3_1).f3)).bind fun t55 => (spec_ChainFault.j1 k1 l0 x3_1 (!t55) ((rd_T89 l0 x3_1).f0) ((rd_T89 l0 x3_1).f1) ((rd_T89 l0 x3_1).f2) ((rd_T89 l0 x3_1).f3))) else (spec_ChainFault.j1 k1 l0 x3_1 true ((rd_T89 l0 x3_1).f0) ((rd_T89 l0 x3_1).f1) ((rd_T89 l0 x3_1).f2) ((rd_T89 l0 x3_1).f3))))) = some r := by rw [if_pos rfl] at H; exact H
       clear H
       have H := H1
       clear H1
       by_cases c10 : ((rd_T89 l0 x3_1).f1) = 0
       ·rw [if_pos c10] at H
        have c10b0 : (((rd_T89 l0 x3_1).f1) == 0) = true := beq_iff_eq.mpr c10
        have c10b1 : (((rd_T89 l0 x3_1).f1) != 0) = false := bne_eq_false_iff_eq.mpr c10
        clear c10
        (first | rw [c10b0] | (simp only [i64_w, i32_w]; rw [c10b0]) | skip)
        replace H := Option.bind_eq_some_iff.mp H
        obtain ⟨t56, A59, H⟩ := H
        replace H : (spec_ChainFault.j1 k1 l0 x3_1 (!t56) ((rd_T89 l0 x3_1).f0) ((rd_T89 l0 x3_1).f1) ((rd_T89 l0 x3_1).f2) ((rd_T89 l0 x3_1).f3)) = some r := H
        have A11 := Aside0.mk A59
        clear A59
        have H' := Aside0.mk H
        clear H
        obtain ⟨hcz12_0, hcz12_1, hcz12_2, hcz12_3, hfz12_0, hfz12_1, hfz12_2, hfz12_3⟩ := Go.Proofs.YtocdahbinombkaaGreat.Lv.blks4 BK34.out
        go_wp2_with (first | (go_at_call 43; (with_reducible refine (spec_l5Txn.calls ((rd_T89 l0 x3_1).f0) true _ A8.out).mono ?_); rintro e w' ⟨rfl, ⟨nd, rfl⟩⟩; (try first | exact ⟨rfl, _, World.drewN_drewN _ _ _⟩ | exact ⟨rfl, _, Eq.trans (World.drewN_drewN _ _ _) (congrArg (World.drewN _) (Nat.add_assoc _ _ _))⟩)) | (go_at_call 48; (with_reducible refine (spec_l1Value.calls ((rd_T89 l0 x3_1).f3) t56 _ A11.out).mono ?_); rintro e w' ⟨rfl, ⟨nd, rfl⟩⟩; (try first | exact ⟨rfl, _, World.drewN_drewN _ _ _⟩ | exact ⟨rfl, _, Eq.trans (World.drewN_drewN _ _ _) (congrArg (World.drewN _) (Nat.add_assoc _ _ _))⟩)))
        repeat (go_quiet (first | (go_at_call 43; (with_reducible refine (spec_l5Txn.calls ((rd_T89 l0 x3_1).f0) true _ A8.out).mono ?_); rintro e w' ⟨rfl, ⟨nd, rfl⟩⟩; (try first | exact ⟨rfl, _, World.drewN_drewN _ _ _⟩ | exact ⟨rfl, _, Eq.trans (World.drewN_drewN _ _ _) (congrArg (World.drewN _) (Nat.add_assoc _ _ _))⟩)) | (go_at_call 48; (with_reducible refine (spec_l1Value.calls ((rd_T89 l0 x3_1).f3) t56 _ A11.out).mono ?_); rintro e w' ⟨rfl, ⟨nd, rfl⟩⟩; (try first | exact ⟨rfl, _, World.drewN_drewN _ _ _⟩ | exact ⟨rfl, _, Eq.trans (World.drewN_drewN _ _ _) (congrArg (World.drewN _) (Nat.add_assoc _ _ _))⟩))); try go_wp2_with (first | (go_at_call 43; (with_reducible refine (spec_l5Txn.calls ((rd_T89 l0 x3_1).f0) true _ A8.out).mono ?_); rintro e w' ⟨rfl, ⟨nd, rfl⟩⟩; (try first | exact ⟨rfl, _, World.drewN_drewN _ _ _⟩ | exact ⟨rfl, _, Eq.trans (World.drewN_drewN _ _ _) (congrArg (World.drewN _) (Nat.add_assoc _ _ _))⟩)) | (go_at_call 48; (with_reducible refine (spec_l1Value.calls ((rd_T89 l0 x3_1).f3) t56 _ A11.out).mono ?_); rintro e w' ⟨rfl, ⟨nd, rfl⟩⟩; (try first | exact ⟨rfl, _, World.drewN_drewN _ _ _⟩ | exact ⟨rfl, _, Eq.trans (World.drewN_drewN _ _ _) (congrArg (World.drewN _) (Nat.add_assoc _ _ _))⟩))))
        go_meet
        case rel => exact ⟨_, (!t56), zs, H', ⟨by have := HK1.out; first | omega | exact Nat.le_refl _⟩, ⟨by (with_reducible repeat (first | refine blk_drewN ?_ _ | refine blk_drew ?_ | refine blk_alloc ?_ _)); refine blk_put (cs := #[.int .i64 ((rd_T89 l0 x3_1).f0), .int .i64 ((rd_T89 l0 x3_1).f1), .bool ((rd_T89 l0 x3_1).f2), .int .i64 0]) ?_ 3 _ rfl; (with_reducible repeat (first | refine blk_drewN ?_ _ | refine blk_drew ?_ | refine blk_alloc ?_ _)); refine blk_put (cs := #[.int .i64 ((rd_T89 l0 x3_1).f0), .int .i64 ((rd_T89 l0 x3_1).f1), .bool false, .int .i64 0]) ?_ 2 _ rfl; (with_reducible repeat (first | refine blk_drewN ?_ _ | refine blk_drew ?_ | refine blk_alloc ?_ _)); refine blk_put (cs := #[.int .i64 ((rd_T89 l0 x3_1).f0), .int .i64 0, .bool false, .int .i64 0]) ?_ 1 _ rfl; (with_reducible repeat (first | refine blk_drewN ?_ _ | refine blk_drew ?_ | refine blk_alloc ?_ _)); refine blk_put (cs := #[.int .i64 0, .int .i64 0, .bool false, .int .i64 0]) ?_ 0 _ rfl; (with_reducible repeat (first | refine blk_drewN ?_ _ | refine blk_drew ?_ | refine blk_alloc ?_ _)); exact BK34.out⟩, ⟨zb⟩⟩
       rw [if_neg c10] at H
       have c10b0 : (((rd_T89 l0 x3_1).f1) == 0) = false := beq_eq_false_iff_ne.mpr c10
       have c10b1 : (((rd_T89 l0 x3_1).f1) != 0) = true := bne_iff_ne.mpr c10
       (first | rw [c10b0] | (simp only [i64_w, i32_w]; rw [c10b0]) | skip)
       replace H := Option.bind_eq_some_iff.mp H
       obtain ⟨t57, A60, H⟩ := H
       replace H : (if t57 = true then ((spec_l1Value.f ((rd_T89 l0 x3_1).f3)).bind fun t55 => (spec_ChainFault.j1 k1 l0 x3_1 (!t55) ((rd_T89 l0 x3_1).f0) ((rd_T89 l0 x3_1).f1) ((rd_T89 l0 x3_1).f2) ((rd_T89 l0 x3_1).f3))) else (spec_ChainFault.j1 k1 l0 x3_1 true ((rd_T89 l0 x3_1).f0) ((rd_T89 l0 x3_1).f1) ((rd_T89 l0 x3_1).f2) ((rd_T89 l0 x3_1).f3))) = some r := H
       have A13 := Aside0.mk A60
       clear A60
       by_cases c14 : t57 = true
       ·subst c14
        have H1 : ((spec_l1Value.f ((rd_T89 l0 x3_1).f3)).bind fun t55 => (spec_ChainFault.j1 k1 l0 x3_1 (!t55) ((rd_T89 l0 x3_1).f0) ((rd_T89 l0 x3_1).f1) ((rd_T89 l0 x3_1).f2) ((rd_T89 l0 x3_1).f3))) = some r := by rw [if_pos rfl] at H; exact H
        clear H
        have H := H1
        clear H1
        replace H := Option.bind_eq_some_iff.mp H
        obtain ⟨t55, A61, H⟩ := H
        replace H : (spec_ChainFault.j1 k1 l0 x3_1 (!t55) ((rd_T89 l0 x3_1).f0) ((rd_T89 l0 x3_1).f1) ((rd_T89 l0 x3_1).f2) ((rd_T89 l0 x3_1).f3)) = some r := H
        have A15 := Aside0.mk A61
        clear A61
        have H' := Aside0.mk H
        clear H
        obtain ⟨hcz16_0, hcz16_1, hcz16_2, hcz16_3, hfz16_0, hfz16_1, hfz16_2, hfz16_3⟩ := Go.Proofs.YtocdahbinombkaaGreat.Lv.blks4 BK34.out
        go_wp2_with (first | (go_at_call 43; (with_reducible refine (spec_l5Txn.calls ((rd_T89 l0 x3_1).f0) true _ A8.out).mono ?_); rintro e w' ⟨rfl, ⟨nd, rfl⟩⟩; (try first | exact ⟨rfl, _, World.drewN_drewN _ _ _⟩ | exact ⟨rfl, _, Eq.trans (World.drewN_drewN _ _ _) (congrArg (World.drewN _) (Nat.add_assoc _ _ _))⟩)) | (go_at_call 99; (with_reducible refine (spec_l5At.calls ((rd_T89 l0 x3_1).f1) true _ A13.out).mono ?_); rintro e w' ⟨rfl, ⟨nd, rfl⟩⟩; (try first | exact ⟨rfl, _, World.drewN_drewN _ _ _⟩ | exact ⟨rfl, _, Eq.trans (World.drewN_drewN _ _ _) (congrArg (World.drewN _) (Nat.add_assoc _ _ _))⟩)) | (go_at_call 48; (with_reducible refine (spec_l1Value.calls ((rd_T89 l0 x3_1).f3) t55 _ A15.out).mono ?_); rintro e w' ⟨rfl, ⟨nd, rfl⟩⟩; (try first | exact ⟨rfl, _, World.drewN_drewN _ _ _⟩ | exact ⟨rfl, _, Eq.trans (World.drewN_drewN _ _ _) (congrArg (World.drewN _) (Nat.add_assoc _ _ _))⟩)))
        repeat (go_quiet (first | (go_at_call 43; (with_reducible refine (spec_l5Txn.calls ((rd_T89 l0 x3_1).f0) true _ A8.out).mono ?_); rintro e w' ⟨rfl, ⟨nd, rfl⟩⟩; (try first | exact ⟨rfl, _, World.drewN_drewN _ _ _⟩ | exact ⟨rfl, _, Eq.trans (World.drewN_drewN _ _ _) (congrArg (World.drewN _) (Nat.add_assoc _ _ _))⟩)) | (go_at_call 99; (with_reducible refine (spec_l5At.calls ((rd_T89 l0 x3_1).f1) true _ A13.out).mono ?_); rintro e w' ⟨rfl, ⟨nd, rfl⟩⟩; (try first | exact ⟨rfl, _, World.drewN_drewN _ _ _⟩ | exact ⟨rfl, _, Eq.trans (World.drewN_drewN _ _ _) (congrArg (World.drewN _) (Nat.add_assoc _ _ _))⟩)) | (go_at_call 48; (with_reducible refine (spec_l1Value.calls ((rd_T89 l0 x3_1).f3) t55 _ A15.out).mono ?_); rintro e w' ⟨rfl, ⟨nd, rfl⟩⟩; (try first | exact ⟨rfl, _, World.drewN_drewN _ _ _⟩ | exact ⟨rfl, _, Eq.trans (World.drewN_drewN _ _ _) (congrArg (World.drewN _) (Nat.add_assoc _ _ _))⟩))); try go_wp2_with (first | (go_at_call 43; (with_reducible refine (spec_l5Txn.calls ((rd_T89 l0 x3_1).f0) true _ A8.out).mono ?_); rintro e w' ⟨rfl, ⟨nd, rfl⟩⟩; (try first | exact ⟨rfl, _, World.drewN_drewN _ _ _⟩ | exact ⟨rfl, _, Eq.trans (World.drewN_drewN _ _ _) (congrArg (World.drewN _) (Nat.add_assoc _ _ _))⟩)) | (go_at_call 99; (with_reducible refine (spec_l5At.calls ((rd_T89 l0 x3_1).f1) true _ A13.out).mono ?_); rintro e w' ⟨rfl, ⟨nd, rfl⟩⟩; (try first | exact ⟨rfl, _, World.drewN_drewN _ _ _⟩ | exact ⟨rfl, _, Eq.trans (World.drewN_drewN _ _ _) (congrArg (World.drewN _) (Nat.add_assoc _ _ _))⟩)) | (go_at_call 48; (with_reducible refine (spec_l1Value.calls ((rd_T89 l0 x3_1).f3) t55 _ A15.out).mono ?_); rintro e w' ⟨rfl, ⟨nd, rfl⟩⟩; (try first | exact ⟨rfl, _, World.drewN_drewN _ _ _⟩ | exact ⟨rfl, _, Eq.trans (World.drewN_drewN _ _ _) (congrArg (World.drewN _) (Nat.add_assoc _ _ _))⟩))))
        go_meet
        case rel => exact ⟨_, (!t55), zs, H', ⟨by have := HK1.out; first | omega | exact Nat.le_refl _⟩, ⟨by (with_reducible repeat (first | refine blk_drewN ?_ _ | refine blk_drew ?_ | refine blk_alloc ?_ _)); refine blk_put (cs := #[.int .i64 ((rd_T89 l0 x3_1).f0), .int .i64 ((rd_T89 l0 x3_1).f1), .bool ((rd_T89 l0 x3_1).f2), .int .i64 0]) ?_ 3 _ rfl; (with_reducible repeat (first | refine blk_drewN ?_ _ | refine blk_drew ?_ | refine blk_alloc ?_ _)); refine blk_put (cs := #[.int .i64 ((rd_T89 l0 x3_1).f0), .int .i64 ((rd_T89 l0 x3_1).f1), .bool false, .int .i64 0]) ?_ 2 _ rfl; (with_reducible repeat (first | refine blk_drewN ?_ _ | refine blk_drew ?_ | refine blk_alloc ?_ _)); refine blk_put (cs := #[.int .i64 ((rd_T89 l0 x3_1).f0), .int .i64 0, .bool false, .int .i64 0]) ?_ 1 _ rfl; (with_reducible repeat (first | refine blk_drewN ?_ _ | refine blk_drew ?_ | refine blk_alloc ?_ _)); refine blk_put (cs := #[.int .i64 0, .int .i64 0, .bool false, .int .i64 0]) ?_ 0 _ rfl; (with_reducible repeat (first | refine blk_drewN ?_ _ | refine blk_drew ?_ | refine blk_alloc ?_ _)); exact BK34.out⟩, ⟨zb⟩⟩
       replace c14 := Bool.eq_false_iff.mpr c14
       subst c14
       have H1 : (spec_ChainFault.j1 k1 l0 x3_1 true ((rd_T89 l0 x3_1).f0) ((rd_T89 l0 x3_1).f1) ((rd_T89 l0 x3_1).f2) ((rd_T89 l0 x3_1).f3)) = some r := by rw [if_neg (show ¬ (false = true) by decide)] at H; exact H
       clear H
       have H := H1
       clear H1
       have H' := Aside0.mk H
       clear H
       obtain ⟨hcz17_0, hcz17_1, hcz17_2, hcz17_3, hfz17_0, hfz17_1, hfz17_2, hfz17_3⟩ := Go.Proofs.YtocdahbinombkaaGreat.Lv.blks4 BK34.out
       go_wp2_with (first | (go_at_call 43; (with_reducible refine (spec_l5Txn.calls ((rd_T89 l0 x3_1).f0) true _ A8.out).mono ?_); rintro e w' ⟨rfl, ⟨nd, rfl⟩⟩; (try first | exact ⟨rfl, _, World.drewN_drewN _ _ _⟩ | exact ⟨rfl, _, Eq.trans (World.drewN_drewN _ _ _) (congrArg (World.drewN _) (Nat.add_assoc _ _ _))⟩)) | (go_at_call 99; (with_reducible refine (spec_l5At.calls ((rd_T89 l0 x3_1).f1) false _ A13.out).mono ?_); rintro e w' ⟨rfl, ⟨nd, rfl⟩⟩; (try first | exact ⟨rfl, _, World.drewN_drewN _ _ _⟩ | exact ⟨rfl, _, Eq.trans (World.drewN_drewN _ _ _) (congrArg (World.drewN _) (Nat.add_assoc _ _ _))⟩)))
       repeat (go_quiet (first | (go_at_call 43; (with_reducible refine (spec_l5Txn.calls ((rd_T89 l0 x3_1).f0) true _ A8.out).mono ?_); rintro e w' ⟨rfl, ⟨nd, rfl⟩⟩; (try first | exact ⟨rfl, _, World.drewN_drewN _ _ _⟩ | exact ⟨rfl, _, Eq.trans (World.drewN_drewN _ _ _) (congrArg (World.drewN _) (Nat.add_assoc _ _ _))⟩)) | (go_at_call 99; (with_reducible refine (spec_l5At.calls ((rd_T89 l0 x3_1).f1) false _ A13.out).mono ?_); rintro e w' ⟨rfl, ⟨nd, rfl⟩⟩; (try first | exact ⟨rfl, _, World.drewN_drewN _ _ _⟩ | exact ⟨rfl, _, Eq.trans (World.drewN_drewN _ _ _) (congrArg (World.drewN _) (Nat.add_assoc _ _ _))⟩))); try go_wp2_with (first | (go_at_call 43; (with_reducible refine (spec_l5Txn.calls ((rd_T89 l0 x3_1).f0) true _ A8.out).mono ?_); rintro e w' ⟨rfl, ⟨nd, rfl⟩⟩; (try first | exact ⟨rfl, _, World.drewN_drewN _ _ _⟩ | exact ⟨rfl, _, Eq.trans (World.drewN_drewN _ _ _) (congrArg (World.drewN _) (Nat.add_assoc _ _ _))⟩)) | (go_at_call 99; (with_reducible refine (spec_l5At.calls ((rd_T89 l0 x3_1).f1) false _ A13.out).mono ?_); rintro e w' ⟨rfl, ⟨nd, rfl⟩⟩; (try first | exact ⟨rfl, _, World.drewN_drewN _ _ _⟩ | exact ⟨rfl, _, Eq.trans (World.drewN_drewN _ _ _) (congrArg (World.drewN _) (Nat.add_assoc _ _ _))⟩))))
       go_meet
       case rel => exact ⟨_, (true), zs, H', ⟨by have := HK1.out; first | omega | exact Nat.le_refl _⟩, ⟨by (with_reducible repeat (first | refine blk_drewN ?_ _ | refine blk_drew ?_ | refine blk_alloc ?_ _)); refine blk_put (cs := #[.int .i64 ((rd_T89 l0 x3_1).f0), .int .i64 ((rd_T89 l0 x3_1).f1), .bool ((rd_T89 l0 x3_1).f2), .int .i64 0]) ?_ 3 _ rfl; (with_reducible repeat (first | refine blk_drewN ?_ _ | refine blk_drew ?_ | refine blk_alloc ?_ _)); refine blk_put (cs := #[.int .i64 ((rd_T89 l0 x3_1).f0), .int .i64 ((rd_T89 l0 x3_1).f1), .bool false, .int .i64 0]) ?_ 2 _ rfl; (with_reducible repeat (first | refine blk_drewN ?_ _ | refine blk_drew ?_ | refine blk_alloc ?_ _)); refine blk_put (cs := #[.int .i64 ((rd_T89 l0 x3_1).f0), .int .i64 0, .bool false, .int .i64 0]) ?_ 1 _ rfl; (with_reducible repeat (first | refine blk_drewN ?_ _ | refine blk_drew ?_ | refine blk_alloc ?_ _)); refine blk_put (cs := #[.int .i64 0, .int .i64 0, .bool false, .int .i64 0]) ?_ 0 _ rfl; (with_reducible repeat (first | refine blk_drewN ?_ _ | refine blk_drew ?_ | refine blk_alloc ?_ _)); exact BK34.out⟩, ⟨zb⟩⟩
      replace c9 := Bool.eq_false_iff.mpr c9
      subst c9
      have H1 : (spec_ChainFault.j1 k1 l0 x3_1 true ((rd_T89 l0 x3_1).f0) ((rd_T89 l0 x3_1).f1) ((rd_T89 l0 x3_1).f2) ((rd_T89 l0 x3_1).f3)) = some r := by rw [if_neg (show ¬ (false = true) by decide)] at H; exact H
      clear H
      have H := H1
      clear H1
      have H' := Aside0.mk H
      clear H
      obtain ⟨hcz18_0, hcz18_1, hcz18_2, hcz18_3, hfz18_0, hfz18_1, hfz18_2, hfz18_3⟩ := Go.Proofs.YtocdahbinombkaaGreat.Lv.blks4 BK34.out
      go_wp2_with (first | (go_at_call 43; (with_reducible refine (spec_l5Txn.calls ((rd_T89 l0 x3_1).f0) false _ A8.out).mono ?_); rintro e w' ⟨rfl, ⟨nd, rfl⟩⟩; (try first | exact ⟨rfl, _, World.drewN_drewN _ _ _⟩ | exact ⟨rfl, _, Eq.trans (World.drewN_drewN _ _ _) (congrArg (World.drewN _) (Nat.add_assoc _ _ _))⟩)))
      repeat (go_quiet (first | (go_at_call 43; (with_reducible refine (spec_l5Txn.calls ((rd_T89 l0 x3_1).f0) false _ A8.out).mono ?_); rintro e w' ⟨rfl, ⟨nd, rfl⟩⟩; (try first | exact ⟨rfl, _, World.drewN_drewN _ _ _⟩ | exact ⟨rfl, _, Eq.trans (World.drewN_drewN _ _ _) (congrArg (World.drewN _) (Nat.add_assoc _ _ _))⟩))); try go_wp2_with (first | (go_at_call 43; (with_reducible refine (spec_l5Txn.calls ((rd_T89 l0 x3_1).f0) false _ A8.out).mono ?_); rintro e w' ⟨rfl, ⟨nd, rfl⟩⟩; (try first | exact ⟨rfl, _, World.drewN_drewN _ _ _⟩ | exact ⟨rfl, _, Eq.trans (World.drewN_drewN _ _ _) (congrArg (World.drewN _) (Nat.add_assoc _ _ _))⟩))))
      go_meet
      case rel => exact ⟨_, (true), zs, H', ⟨by have := HK1.out; first | omega | exact Nat.le_refl _⟩, ⟨by (with_reducible repeat (first | refine blk_drewN ?_ _ | refine blk_drew ?_ | refine blk_alloc ?_ _)); refine blk_put (cs := #[.int .i64 ((rd_T89 l0 x3_1).f0), .int .i64 ((rd_T89 l0 x3_1).f1), .bool ((rd_T89 l0 x3_1).f2), .int .i64 0]) ?_ 3 _ rfl; (with_reducible repeat (first | refine blk_drewN ?_ _ | refine blk_drew ?_ | refine blk_alloc ?_ _)); refine blk_put (cs := #[.int .i64 ((rd_T89 l0 x3_1).f0), .int .i64 ((rd_T89 l0 x3_1).f1), .bool false, .int .i64 0]) ?_ 2 _ rfl; (with_reducible repeat (first | refine blk_drewN ?_ _ | refine blk_drew ?_ | refine blk_alloc ?_ _)); refine blk_put (cs := #[.int .i64 ((rd_T89 l0 x3_1).f0), .int .i64 0, .bool false, .int .i64 0]) ?_ 1 _ rfl; (with_reducible repeat (first | refine blk_drewN ?_ _ | refine blk_drew ?_ | refine blk_alloc ?_ _)); refine blk_put (cs := #[.int .i64 0, .int .i64 0, .bool false, .int .i64 0]) ?_ 0 _ rfl; (with_reducible repeat (first | refine blk_drewN ?_ _ | refine blk_drew ?_ | refine blk_alloc ?_ _)); exact BK34.out⟩, ⟨zb⟩⟩
     case rest =>
      clear HC5
      try clear c1
      try clear p1
      try clear q1
      try clear hx1
      try clear c2
      try clear c2b0
      try clear c2b1
      try clear p2
      try clear c3
      try clear c3b0
      try clear c4
      try clear c4b0
      try clear c8
      try clear c9
      try clear c10
      try clear c10b0
      try clear c10b1
      try clear p11
      try clear q11
      try clear hx11
      try clear c14
      try clear hcz12_0 hcz12_1 hcz12_2 hcz12_3
      try clear hcz16_0 hcz16_1 hcz16_2 hcz16_3
      try clear hcz17_0 hcz17_1 hcz17_2 hcz17_3
      try clear hcz18_0 hcz18_1 hcz18_2 hcz18_3
      try clear hcz7_0 hcz7_1 hcz7_2 hcz7_3
      try clear hfz12_0 hfz12_1 hfz12_2 hfz12_3
      try clear hfz16_0 hfz16_1 hfz16_2 hfz16_3
      try clear hfz17_0 hfz17_1 hfz17_2 hfz17_3
      try clear hfz18_0 hfz18_1 hfz18_2 hfz18_3
      try clear hfz7_0 hfz7_1 hfz7_2 hfz7_3
      try clear hx54_0
      try clear hx54_1
      try clear hx54_2
      try clear hx54_3
      try clear p116
      try clear p2
      try clear q54
      obtain ⟨kq, x38_4, rfl, HA, HJ4, BK34, HB⟩ := hcut
      cases kq with
      | zero => exact absurd HA.out (by simp [spec_ChainFault.j1])
      | succ kj4 =>
       have H := HA.out
       clear HA
       simp only [spec_ChainFault.j1] at H
       by_cases c19 : x38_4 = true
       ·subst c19
        have H1 : (some 3) = some r := by rw [if_pos rfl] at H; exact H
        clear H
        have H := H1
        clear H1
        obtain rfl := Option.some.inj H
        go_wp2
        repeat (go_quiet (fail); try go_wp2)
        go_ret
        exact ⟨ze, zb⟩
       replace c19 := Bool.eq_false_iff.mpr c19
       subst c19
       have H1 : (if ((rd_T89 l0 x3_1).f2) = true then (if ((rd_T89 l0 x3_1).f3) = 0 then (if ((rd_T89 l0 x3_1).f1) = 0 then (if x3_1 > 0 then (some 1) else (spec_ChainFault.l0 kj4 l0 (wrap64 (x3_1 + 1)))) else (if x3_1 > 0 then (if 0 ≤ (wrap64 (x3_1 - 1)) then (if (wrap64 (x3_1 - 1)) < (l0.length : Int) then (if ((rd_T89 l0 (wrap64 (x3_1 - 1))).f1) = 0 then (spec_ChainFault.l0 kj4 l0 (wrap64 (x3_1 + 1))) else (if ((rd_T89 l0 x3_1).f1) ≥ ((rd_T89 l0 (wrap64 (x3_1 - 1))).f1) then (some 1) else (spec_ChainFault.l0 kj4 l0 (wrap64 (x3_1 + 1))))) else (none)) else (none)) else (spec_ChainFault.l0 kj4 l0 (wrap64 (x3_1 + 1))))) else (some 1)) else (if ((rd_T89 l0 x3_1).f1) = 0 then (if x3_1 > 0 then (some 1) else (spec_ChainFault.l0 kj4 l0 (wrap64 (x3_1 + 1)))) else (if x3_1 > 0 then (if 0 ≤ (wrap64 (x3_1 - 1)) then (if (wrap64 (x3_1 - 1)) < (l0.length : Int) then (if ((rd_T89 l0 (wrap64 (x3_1 - 1))).f1) = 0 then (spec_ChainFault.l0 kj4 l0 (wrap64 (x3_1 + 1))) else (if ((rd_T89 l0 x3_1).f1) ≥ ((rd_T89 l0 (wrap64 (x3_1 - 1))).f1) then (some 1) else (spec_ChainFault.l0 kj4 l0 (wrap64 (x3_1 + 1))))) else (none)) else (none)) else (spec_ChainFault.l0 kj4 l0 (wrap64 (x3_1 + 1)))))) = some r := by rw [if_neg (show ¬ (false = true) by decide)] at H; exact H
       clear H
       have H := H1
       clear H1
       by_cases c20 : ((rd_T89 l0 x3_1).f2) = true
       ·rw [if_pos c20] at H
        have c20b0 : ((rd_T89 l0 x3_1).f2) = true := c20
        clear c20
        by_cases c21 : ((rd_T89 l0 x3_1).f3) = 0
        ·rw [if_pos c21] at H
         have c21b0 : (((rd_T89 l0 x3_1).f3) == 0) = true := beq_iff_eq.mpr c21
         have c21b1 : (((rd_T89 l0 x3_1).f3) != 0) = false := bne_eq_false_iff_eq.mpr c21
         clear c21
         by_cases c22 : ((rd_T89 l0 x3_1).f1) = 0
         ·rw [if_pos c22] at H
          have c22b0 : (((rd_T89 l0 x3_1).f1) == 0) = true := beq_iff_eq.mpr c22
          have c22b1 : (((rd_T89 l0 x3_1).f1) != 0) = false := bne_eq_false_iff_eq.mpr c22
          clear c22
          by_cases c23 : x3_1 > 0
          ·rw [if_pos c23] at H
           have c23b0 : decide (0 < x3_1) = true := decide_eq_true c23
           clear c23
           obtain rfl := Option.some.inj H
           obtain ⟨hcz24_0, hcz24_1, hcz24_2, hcz24_3, hfz24_0, hfz24_1, hfz24_2, hfz24_3⟩ := Go.Proofs.YtocdahbinombkaaGreat.Lv.blks4 BK34.out
           go_wp2
           repeat (go_quiet (fail); try go_wp2)
           go_ret
           exact ⟨ze, zb⟩
          rw [if_neg c23] at H
          have c23b0 : decide (0 < x3_1) = false := decide_eq_false c23
          clear c23
          have H' := Aside0.mk H
          clear H
          obtain ⟨hcz25_0, hcz25_1, hcz25_2, hcz25_3, hfz25_0, hfz25_1, hfz25_2, hfz25_3⟩ := Go.Proofs.YtocdahbinombkaaGreat.Lv.blks4 BK34.out
          go_wp2
          repeat (go_quiet (fail); try go_wp2)
          go_roundg kj4
          case measure => have := HK1.out; have := HJ4.out; omega
          case rel => exact ⟨(wrap64 (x3_1 + 1)), zs, H', ⟨by have := HK1.out; have := HJ4.out; omega⟩, ⟨zb⟩⟩
         rw [if_neg c22] at H
         have c22b0 : (((rd_T89 l0 x3_1).f1) == 0) = false := beq_eq_false_iff_ne.mpr c22
         have c22b1 : (((rd_T89 l0 x3_1).f1) != 0) = true := bne_iff_ne.mpr c22
         by_cases c26 : x3_1 > 0
         ·rw [if_pos c26] at H
          have c26b0 : decide (0 < x3_1) = true := decide_eq_true c26
          clear c26
          obtain ⟨ji27, hji27⟩ : ∃ j_ : Int, (wrap64 (x3_1 - 1)) = j_ := ⟨_, rfl⟩
          replace H : (if 0 ≤ (ji27) then (if (ji27) < (l0.length : Int) then (if ((rd_T89 l0 (ji27)).f1) = 0 then (spec_ChainFault.l0 kj4 l0 (wrap64 (x3_1 + 1))) else (if ((rd_T89 l0 x3_1).f1) ≥ ((rd_T89 l0 (ji27)).f1) then (some 1) else (spec_ChainFault.l0 kj4 l0 (wrap64 (x3_1 + 1))))) else (none)) else (none)) = some r := by first | (rw [hji27] at H; exact H) | (simp only [hji27] at H ⊢; exact H)
          have hji27w : (IntKind.i64.wrap (x3_1 - 1)) = ji27 := (i64_w _).trans hji27
          by_cases c28 : 0 ≤ (ji27)
          ·rw [if_pos c28] at H
           have c28b0 : decide (0 ≤ (ji27)) = true := decide_eq_true c28
           clear c28
           by_cases c29 : (ji27) < (l0.length : Int)
           ·rw [if_pos c29] at H
            have c29b0 : decide ((ji27) < (l0.length : Int)) = true := decide_eq_true c29
            clear c29
            by_cases c30 : ((rd_T89 l0 (ji27)).f1) = 0
            ·rw [if_pos c30] at H
             have c30b0 : (((rd_T89 l0 (ji27)).f1) == 0) = true := beq_iff_eq.mpr c30
             have c30b1 : (((rd_T89 l0 (ji27)).f1) != 0) = false := bne_eq_false_iff_eq.mpr c30
             clear c30
             have H' := Aside0.mk H
             clear H
             obtain ⟨hcz31_0, hcz31_1, hcz31_2, hcz31_3, hfz31_0, hfz31_1, hfz31_2, hfz31_3⟩ := Go.Proofs.YtocdahbinombkaaGreat.Lv.blks4 BK34.out
             have p122 : 0 ≤ ((ji27) : Int) := of_decide_eq_true za
             have q49 : (ji27) < (l0.length : Int) := of_decide_eq_true za
             obtain ⟨ad49, e122, hx49_0, hx49_1, hx49_2, hx49_3⟩ := at_T89 HR0.out (ji27) p122 q49
             obtain rfl : ad54 = ad49 := (by injection e122)
             replace hx49_0 := zx HB hx49_0
             replace hx49_1 := zx HB hx49_1
             replace hx49_2 := zx HB hx49_2
             replace hx49_3 := zx HB hx49_3
             replace p122 := eq_true p122
             replace q49 := eq_true q49
             go_wp2
             repeat (go_quiet (fail); try go_wp2)
             go_roundg kj4
             case measure => have := HK1.out; have := HJ4.out; omega
             case rel => exact ⟨(wrap64 (x3_1 + 1)), zs, H', ⟨by have := HK1.out; have := HJ4.out; omega⟩, ⟨zb⟩⟩
            rw [if_neg c30] at H
            have c30b0 : (((rd_T89 l0 (ji27)).f1) == 0) = false := beq_eq_false_iff_ne.mpr c30
            have c30b1 : (((rd_T89 l0 (ji27)).f1) != 0) = true := bne_iff_ne.mpr c30
            have HX_ := Aside0.mk H
            clear H
            obtain ⟨hcz33_0, hcz33_1, hcz33_2, hcz33_3, hfz33_0, hfz33_1, hfz33_2, hfz33_3⟩ := Go.Proofs.YtocdahbinombkaaGreat.Lv.blks4 BK34.out
            have p122 : 0 ≤ ((ji27) : Int) := of_decide_eq_true za
            have q49 : (ji27) < (l0.length : Int) := of_decide_eq_true za
            obtain ⟨ad49, e122, hx49_0, hx49_1, hx49_2, hx49_3⟩ := at_T89 HR0.out (ji27) p122 q49
            obtain rfl : ad54 = ad49 := (by injection e122)
            replace hx49_0 := zx HB hx49_0
            replace hx49_1 := zx HB hx49_1
            replace hx49_2 := zx HB hx49_2
            replace hx49_3 := zx HB hx49_3
            replace p122 := eq_true p122
            replace q49 := eq_true q49
            have p123 : 0 ≤ ((ji27) : Int) := of_decide_eq_true za
            have q52 : (ji27) < (l0.length : Int) := of_decide_eq_true za
            obtain ⟨ad52, e123, hx52_0, hx52_1, hx52_2, hx52_3⟩ := at_T89 HR0.out (ji27) p123 q52
            obtain rfl : ad54 = ad52 := (by injection e123)
            replace hx52_0 := zx HB hx52_0
            replace hx52_1 := zx HB hx52_1
            replace hx52_2 := zx HB hx52_2
            replace hx52_3 := zx HB hx52_3
            replace p123 := eq_true p123
            replace q52 := eq_true q52
            have H := HX_.out
            clear HX_
            by_cases c32 : ((rd_T89 l0 x3_1).f1) ≥ ((rd_T89 l0 (ji27)).f1)
            ·rw [if_pos c32] at H
             have c32b0 : decide (((rd_T89 l0 (ji27)).f1) ≤ ((rd_T89 l0 x3_1).f1)) = true := decide_eq_true c32
             clear c32
             obtain rfl := Option.some.inj H
             go_wp2
             repeat (go_quiet (fail); try go_wp2)
             go_ret
             exact ⟨by first | rfl | (simp [errW_none, errW_some] <;> rfl) | (simp only [← hji27]; first | rfl | (simp [errW_none, errW_some] <;> rfl)) | (simp [*, errW_none, errW_some] <;> rfl), zb⟩
            rw [if_neg c32] at H
            have c32b0 : decide (((rd_T89 l0 (ji27)).f1) ≤ ((rd_T89 l0 x3_1).f1)) = false := decide_eq_false c32
            clear c32
            have H' := Aside0.mk H
            clear H
            go_wp2
            repeat (go_quiet (fail); try go_wp2)
            go_roundg kj4
            case measure => have := HK1.out; have := HJ4.out; omega
            case rel => exact ⟨(wrap64 (x3_1 + 1)), zs, H', ⟨by have := HK1.out; have := HJ4.out; omega⟩, ⟨zb⟩⟩
           rw [if_neg c29] at H
           exact absurd H (by simp)
          rw [if_neg c28] at H
          exact absurd H (by simp)
         rw [if_neg c26] at H
         have c26b0 : decide (0 < x3_1) = false := decide_eq_false c26
         clear c26
         have H' := Aside0.mk H
         clear H
         obtain ⟨hcz35_0, hcz35_1, hcz35_2, hcz35_3, hfz35_0, hfz35_1, hfz35_2, hfz35_3⟩ := Go.Proofs.YtocdahbinombkaaGreat.Lv.blks4 BK34.out
         go_wp2
         repeat (go_quiet (fail); try go_wp2)
         go_roundg kj4
         case measure => have := HK1.out; have := HJ4.out; omega
         case rel => exact ⟨(wrap64 (x3_1 + 1)), zs, H', ⟨by have := HK1.out; have := HJ4.out; omega⟩, ⟨zb⟩⟩
        rw [if_neg c21] at H
        have c21b0 : (((rd_T89 l0 x3_1).f3) == 0) = false := beq_eq_false_iff_ne.mpr c21
        have c21b1 : (((rd_T89 l0 x3_1).f3) != 0) = true := bne_iff_ne.mpr c21
        obtain rfl := Option.some.inj H
        obtain ⟨hcz36_0, hcz36_1, hcz36_2, hcz36_3, hfz36_0, hfz36_1, hfz36_2, hfz36_3⟩ := Go.Proofs.YtocdahbinombkaaGreat.Lv.blks4 BK34.out
        go_wp2
        repeat (go_quiet (fail); try go_wp2)
        go_ret
        exact ⟨ze, zb⟩
       rw [if_neg c20] at H
       have c20b0 : ((rd_T89 l0 x3_1).f2) = false := by simpa using c20
       clear c20
       by_cases c37 : ((rd_T89 l0 x3_1).f1) = 0
       ·rw [if_pos c37] at H
        have c37b0 : (((rd_T89 l0 x3_1).f1) == 0) = true := beq_iff_eq.mpr c37
        have c37b1 : (((rd_T89 l0 x3_1).f1) != 0) = false := bne_eq_false_iff_eq.mpr c37
        clear c37
        by_cases c38 : x3_1 > 0
        ·rw [if_pos c38] at H
         have c38b0 : decide (0 < x3_1) = true := decide_eq_true c38
         clear c38
         obtain rfl := Option.some.inj H
         obtain ⟨hcz39_0, hcz39_1, hcz39_2, hcz39_3, hfz39_0, hfz39_1, hfz39_2, hfz39_3⟩ := Go.Proofs.YtocdahbinombkaaGreat.Lv.blks4 BK34.out
         go_wp2
         repeat (go_quiet (fail); try go_wp2)
         go_ret
         exact ⟨ze, zb⟩
        rw [if_neg c38] at H
        have c38b0 : decide (0 < x3_1) = false := decide_eq_false c38
        clear c38
        have H' := Aside0.mk H
        clear H
        obtain ⟨hcz40_0, hcz40_1, hcz40_2, hcz40_3, hfz40_0, hfz40_1, hfz40_2, hfz40_3⟩ := Go.Proofs.YtocdahbinombkaaGreat.Lv.blks4 BK34.out
        go_wp2
        repeat (go_quiet (fail); try go_wp2)
        go_roundg kj4
        case measure => have := HK1.out; have := HJ4.out; omega
        case rel => exact ⟨(wrap64 (x3_1 + 1)), zs, H', ⟨by have := HK1.out; have := HJ4.out; omega⟩, ⟨zb⟩⟩
       rw [if_neg c37] at H
       have c37b0 : (((rd_T89 l0 x3_1).f1) == 0) = false := beq_eq_false_iff_ne.mpr c37
       have c37b1 : (((rd_T89 l0 x3_1).f1) != 0) = true := bne_iff_ne.mpr c37
       by_cases c41 : x3_1 > 0
       ·rw [if_pos c41] at H
        have c41b0 : decide (0 < x3_1) = true := decide_eq_true c41
        clear c41
        obtain ⟨ji42, hji42⟩ : ∃ j_ : Int, (wrap64 (x3_1 - 1)) = j_ := ⟨_, rfl⟩
        replace H : (if 0 ≤ (ji42) then (if (ji42) < (l0.length : Int) then (if ((rd_T89 l0 (ji42)).f1) = 0 then (spec_ChainFault.l0 kj4 l0 (wrap64 (x3_1 + 1))) else (if ((rd_T89 l0 x3_1).f1) ≥ ((rd_T89 l0 (ji42)).f1) then (some 1) else (spec_ChainFault.l0 kj4 l0 (wrap64 (x3_1 + 1))))) else (none)) else (none)) = some r := by first | (rw [hji42] at H; exact H) | (simp only [hji42] at H ⊢; exact H)
        have hji42w : (IntKind.i64.wrap (x3_1 - 1)) = ji42 := (i64_w _).trans hji42
        by_cases c43 : 0 ≤ (ji42)
        ·rw [if_pos c43] at H
         have c43b0 : decide (0 ≤ (ji42)) = true := decide_eq_true c43
         clear c43
         by_cases c44 : (ji42) < (l0.length : Int)
         ·rw [if_pos c44] at H
          have c44b0 : decide ((ji42) < (l0.length : Int)) = true := decide_eq_true c44
          clear c44
          by_cases c45 : ((rd_T89 l0 (ji42)).f1) = 0
          ·rw [if_pos c45] at H
           have c45b0 : (((rd_T89 l0 (ji42)).f1) == 0) = true := beq_iff_eq.mpr c45
           have c45b1 : (((rd_T89 l0 (ji42)).f1) != 0) = false := bne_eq_false_iff_eq.mpr c45
           clear c45
           have H' := Aside0.mk H
           clear H
           obtain ⟨hcz46_0, hcz46_1, hcz46_2, hcz46_3, hfz46_0, hfz46_1, hfz46_2, hfz46_3⟩ := Go.Proofs.YtocdahbinombkaaGreat.Lv.blks4 BK34.out
           have p124 : 0 ≤ ((ji42) : Int) := of_decide_eq_true za
           have q51 : (ji42) < (l0.length : Int) := of_decide_eq_true za
           obtain ⟨ad51, e124, hx51_0, hx51_1, hx51_2, hx51_3⟩ := at_T89 HR0.out (ji42) p124 q51
           obtain rfl : ad54 = ad51 := (by injection e124)
           replace hx51_0 := zx HB hx51_0
           replace hx51_1 := zx HB hx51_1
           replace hx51_2 := zx HB hx51_2
           replace hx51_3 := zx HB hx51_3
           replace p124 := eq_true p124
           replace q51 := eq_true q51
           go_wp2
           repeat (go_quiet (fail); try go_wp2)
           go_roundg kj4
           case measure => have := HK1.out; have := HJ4.out; omega
           case rel => exact ⟨(wrap64 (x3_1 + 1)), zs, H', ⟨by have := HK1.out; have := HJ4.out; omega⟩, ⟨zb⟩⟩
          rw [if_neg c45] at H
          have c45b0 : (((rd_T89 l0 (ji42)).f1) == 0) = false := beq_eq_false_iff_ne.mpr c45
          have c45b1 : (((rd_T89 l0 (ji42)).f1) != 0) = true := bne_iff_ne.mpr c45
          have HX_ := Aside0.mk H
          clear H
          obtain ⟨hcz48_0, hcz48_1, hcz48_2, hcz48_3, hfz48_0, hfz48_1, hfz48_2, hfz48_3⟩ := Go.Proofs.YtocdahbinombkaaGreat.Lv.blks4 BK34.out
          have p124 : 0 ≤ ((ji42) : Int) := of_decide_eq_true za
          have q51 : (ji42) < (l0.length : Int) := of_decide_eq_true za
          obtain ⟨ad51, e124, hx51_0, hx51_1, hx51_2, hx51_3⟩ := at_T89 HR0.out (ji42) p124 q51
          obtain rfl : ad54 = ad51 := (by injection e124)
          replace hx51_0 := zx HB hx51_0
          replace hx51_1 := zx HB hx51_1
          replace hx51_2 := zx HB hx51_2
          replace hx51_3 := zx HB hx51_3
          replace p124 := eq_true p124
          replace q51 := eq_true q51
          have p125 : 0 ≤ ((ji42) : Int) := of_decide_eq_true za
          have q53 : (ji42) < (l0.length : Int) := of_decide_eq_true za
          obtain ⟨ad53, e125, hx53_0, hx53_1, hx53_2, hx53_3⟩ := at_T89 HR0.out (ji42) p125 q53
          obtain rfl : ad54 = ad53 := (by injection e125)
          replace hx53_0 := zx HB hx53_0
          replace hx53_1 := zx HB hx53_1
          replace hx53_2 := zx HB hx53_2
          replace hx53_3 := zx HB hx53_3
          replace p125 := eq_true p125
          replace q53 := eq_true q53
          have H := HX_.out
          clear HX_
          by_cases c47 : ((rd_T89 l0 x3_1).f1) ≥ ((rd_T89 l0 (ji42)).f1)
          ·rw [if_pos c47] at H
           have c47b0 : decide (((rd_T89 l0 (ji42)).f1) ≤ ((rd_T89 l0 x3_1).f1)) = true := decide_eq_true c47
           clear c47
           obtain rfl := Option.some.inj H
           go_wp2
           repeat (go_quiet (fail); try go_wp2)
           go_ret
           exact ⟨by first | rfl | (simp [errW_none, errW_some] <;> rfl) | (simp only [← hji42]; first | rfl | (simp [errW_none, errW_some] <;> rfl)) | (simp [*, errW_none, errW_some] <;> rfl), zb⟩
          rw [if_neg c47] at H
          have c47b0 : decide (((rd_T89 l0 (ji42)).f1) ≤ ((rd_T89 l0 x3_1).f1)) = false := decide_eq_false c47
          clear c47
          have H' := Aside0.mk H
          clear H
          go_wp2
          repeat (go_quiet (fail); try go_wp2)
          go_roundg kj4
          case measure => have := HK1.out; have := HJ4.out; omega
          case rel => exact ⟨(wrap64 (x3_1 + 1)), zs, H', ⟨by have := HK1.out; have := HJ4.out; omega⟩, ⟨zb⟩⟩
         rw [if_neg c44] at H
         exact absurd H (by simp)
        rw [if_neg c43] at H
        exact absurd H (by simp)
       rw [if_neg c41] at H
       have c41b0 : decide (0 < x3_1) = false := decide_eq_false c41
       clear c41
       have H' := Aside0.mk H
       clear H
       obtain ⟨hcz50_0, hcz50_1, hcz50_2, hcz50_3, hfz50_0, hfz50_1, hfz50_2, hfz50_3⟩ := Go.Proofs.YtocdahbinombkaaGreat.Lv.blks4 BK34.out
       go_wp2
       repeat (go_quiet (fail); try go_wp2)
       go_roundg kj4
       case measure => have := HK1.out; have := HJ4.out; omega
       case rel => exact ⟨(wrap64 (x3_1 + 1)), zs, H', ⟨by have := HK1.out; have := HJ4.out; omega⟩, ⟨zb⟩⟩
    rw [if_neg c4] at H
    exact absurd H (by simp)
   rw [if_neg c3] at H
   have c3b0 : decide (x3_1 < (l0.length : Int)) = false := decide_eq_false c3
   clear c3
   obtain rfl := Option.some.inj H
   go_wp2
   repeat (go_quiet (fail); try go_wp2)
   go_ret
   exact ⟨ze, zb⟩
set_option maxHeartbeats 8000000 in
set_option maxRecDepth 100000 in
theorem spec_l5Writer.calls (A0 : Option Addr) (c0 : Nat) (l0 : List (S89)) (r : Int) (w : World) (hr0 : Kd.C k89 w A0 l0.length l0) (hc0 : l0.length ≤ c0) (h : spec_l5Writer.f l0 = some r) :
 Calls Tryz.prog 85 #[.slice A0 l0.length c0] w fun e w' => e = .returned (.int .i64 r) ∧ Drawn0 w w' := by
 have HR0 := Aside0.mk hr0
 have HC0 := Aside0.mk hc0
 clear hr0 hc0
 have H : (if (l0.length : Int) > 0 then (if 0 < (l0.length : Int) then (if ((rd_T89 l0 0).f1) = 0 then (some ((rd_T89 l0 0).f0)) else (some 0)) else (none)) else (some 0)) = some r := h
 clear h
 by_cases c2 : (l0.length : Int) > 0
 ·rw [if_pos c2] at H
  have c2b0 : decide (0 < (l0.length : Int)) = true := decide_eq_true c2
  have c2b1 : decide (0 < l0.length) = true := decide_eq_true (by omega)
  clear c2
  by_cases c3 : 0 < (l0.length : Int)
  ·rw [if_pos c3] at H
   have c3b0 : decide (0 < (l0.length : Int)) = true := decide_eq_true c3
   have c3b1 : decide (0 < l0.length) = true := decide_eq_true (by omega)
   clear c3
   by_cases c4 : ((rd_T89 l0 0).f1) = 0
   ·rw [if_pos c4] at H
    have c4b0 : (((rd_T89 l0 0).f1) == 0) = true := beq_iff_eq.mpr c4
    have c4b1 : (((rd_T89 l0 0).f1) != 0) = false := bne_eq_false_iff_eq.mpr c4
    clear c4
    obtain rfl := Option.some.inj H
    have p126 : 0 ≤ (0 : Int) := (by omega)
    have q6 : 0 < (l0.length : Int) := of_decide_eq_true za
    obtain ⟨ad6, e126, hx6_0, hx6_1, hx6_2, hx6_3⟩ := at_T89 HR0.out 0 p126 q6
    cases e126
    have qi126 : (0 < l0.length) = True := eq_true (by omega)
    (try rw [show ((0 : Int)).toNat = 0 from rfl] at hx6_0)
    (try rw [show 0 * 4 = 0 from rfl] at hx6_0)
    (try rw [Addr.add_zero'] at hx6_0)
    (try rw [show ((0 : Int)).toNat = 0 from rfl] at hx6_1)
    (try rw [show 0 * 4 = 0 from rfl] at hx6_1)
    (try rw [Addr.add_zero'] at hx6_1)
    (try rw [show ((0 : Int)).toNat = 0 from rfl] at hx6_2)
    (try rw [show 0 * 4 = 0 from rfl] at hx6_2)
    (try rw [Addr.add_zero'] at hx6_2)
    (try rw [show ((0 : Int)).toNat = 0 from rfl] at hx6_3)
    (try rw [show 0 * 4 = 0 from rfl] at hx6_3)
    (try rw [Addr.add_zero'] at hx6_3)
    replace p126 := eq_true p126
    replace q6 := eq_true q6
    have p127 : 0 ≤ (0 : Int) := (by omega)
    have q7 : 0 < (l0.length : Int) := of_decide_eq_true za
    obtain ⟨ad7, e127, hx7_0, hx7_1, hx7_2, hx7_3⟩ := at_T89 HR0.out 0 p127 q7
    obtain rfl : ad6 = ad7 := (by injection e127)
    have qi127 : (0 < l0.length) = True := eq_true (by omega)
    (try rw [show ((0 : Int)).toNat = 0 from rfl] at hx7_0)
    (try rw [show 0 * 4 = 0 from rfl] at hx7_0)
    (try rw [Addr.add_zero'] at hx7_0)
    (try rw [show ((0 : Int)).toNat = 0 from rfl] at hx7_1)
    (try rw [show 0 * 4 = 0 from rfl] at hx7_1)
    (try rw [Addr.add_zero'] at hx7_1)
    (try rw [show ((0 : Int)).toNat = 0 from rfl] at hx7_2)
    (try rw [show 0 * 4 = 0 from rfl] at hx7_2)
    (try rw [Addr.add_zero'] at hx7_2)
    (try rw [show ((0 : Int)).toNat = 0 from rfl] at hx7_3)
    (try rw [show 0 * 4 = 0 from rfl] at hx7_3)
    (try rw [Addr.add_zero'] at hx7_3)
    replace p127 := eq_true p127
    replace q7 := eq_true q7
    go_enter Tryz.func85, Tryz.ntmps85
    go_wp2
    go_ret
    exact ⟨zs, zd⟩
   rw [if_neg c4] at H
   have c4b0 : (((rd_T89 l0 0).f1) == 0) = false := beq_eq_false_iff_ne.mpr c4
   have c4b1 : (((rd_T89 l0 0).f1) != 0) = true := bne_iff_ne.mpr c4
   obtain rfl := Option.some.inj H
   have p126 : 0 ≤ (0 : Int) := (by omega)
   have q6 : 0 < (l0.length : Int) := of_decide_eq_true za
   obtain ⟨ad6, e126, hx6_0, hx6_1, hx6_2, hx6_3⟩ := at_T89 HR0.out 0 p126 q6
   cases e126
   have qi126 : (0 < l0.length) = True := eq_true (by omega)
   (try rw [show ((0 : Int)).toNat = 0 from rfl] at hx6_0)
   (try rw [show 0 * 4 = 0 from rfl] at hx6_0)
   (try rw [Addr.add_zero'] at hx6_0)
   (try rw [show ((0 : Int)).toNat = 0 from rfl] at hx6_1)
   (try rw [show 0 * 4 = 0 from rfl] at hx6_1)
   (try rw [Addr.add_zero'] at hx6_1)
   (try rw [show ((0 : Int)).toNat = 0 from rfl] at hx6_2)
   (try rw [show 0 * 4 = 0 from rfl] at hx6_2)
   (try rw [Addr.add_zero'] at hx6_2)
   (try rw [show ((0 : Int)).toNat = 0 from rfl] at hx6_3)
   (try rw [show 0 * 4 = 0 from rfl] at hx6_3)
   (try rw [Addr.add_zero'] at hx6_3)
   replace p126 := eq_true p126
   replace q6 := eq_true q6
   go_enter Tryz.func85, Tryz.ntmps85
   go_wp2
   go_ret
   exact ⟨zs, zd⟩
  rw [if_neg c3] at H
  exact absurd H (by simp)
 rw [if_neg c2] at H
 have c2b0 : decide (0 < (l0.length : Int)) = false := decide_eq_false c2
 have c2b1 : decide (0 < l0.length) = false := decide_eq_false (by omega)
 clear c2
 obtain rfl := Option.some.inj H
 go_enter Tryz.func85, Tryz.ntmps85
 go_wp2
 go_ret
 exact ⟨zs, zd⟩
end Go.Proofs.YtocdahbinombkaaGreat.P
