import Derived.Test.YthagppmaofcllaaZz
import Derived.Test.YthagppmaofcllaaP0
import Derived.Test.YthagppmaofcllaaPCall0
import Derived.Test.YthagppmaofcllaaPCall1
import Derived.Test.YthagppmaofcllaaPCall2
import Derived.Test.YthagppmaofcllaaPDm0
import Derived.Test.YthagppmaofcllaaWRepsOne
import Derived.Test.YthagppmaofcllaaLv
import Derived.Test.YthagppmaofcllaaLv
import Derived.Test.YthagppmaofcllaaLv
import Derived.Test.YthagppmaofcllaaLb
import Derived.Shelf.Abstract
import Derived.Test.YthagppmaofcllaaLb
namespace Go.Proofs.Ythagppmaofcllaa.P
open Go.RowKit Go.Proofs.YthagppmaofcllaaW.PrintWords Go.Proofs.YthagppmaofcllaaW.PrintLast Go.Proofs.YthagppmaofcllaaW.PrintMore
attribute [local go_sem] max2_int min2_int max_two min_two max_three min_three max_four min_four   -- for this text's walks alone
set_option linter.unusedVariables false
set_option linter.unusedSimpArgs false
set_option maxHeartbeats 8000000 in
set_option maxRecDepth 100000 in
theorem spec_l1Has.calls (k : Nat) (A0 : Option Addr) (c0 : Nat) (l0 : List Int) (a1 : Int) (r : Bool) (w : World) (hr0 : Kd.C (Kd.int .i64) w A0 l0.length l0) (hc0 : l0.length ≤ c0) (h : spec_l1Has.f k l0 a1 = some r) :
 Calls Try.prog 87 #[.slice A0 l0.length c0, .int .i64 a1] w fun e w' => e = .returned (.bool r) ∧ Drawn0 w w' := by
 have HR0 := Aside0.mk hr0
 have HC0 := Aside0.mk hc0
 clear hr0 hc0
 have H : (spec_l1Has.l0 k l0 a1 0) = some r := h
 clear h
 have H' := Aside0.mk H
 clear H
 go_enter Try.func87, Try.ntmps87
 go_wp2
 go_loopg [5] k (fun kq v5 w' => ∃ (x5_1 : Int), v5 = .int .i64 x5_1 ∧ Aside0 (spec_l1Has.l0 kq l0 a1 x5_1 = some r) ∧ Aside0 (kq ≤ k) ∧ Drawn0 w w')
 case atStart => exact ⟨(0), zs, H', ⟨Nat.le_refl _⟩, zd⟩
 case round =>
  clear H'
  try clear p2
  obtain ⟨x5_1, rfl, HA, HK1, ⟨m1, rfl⟩⟩ := hrel
  cases gk with
  | zero => exact absurd HA.out (by simp [spec_l1Has.l0])
  | succ k1 =>
   have H := HA.out
   clear HA
   simp only [spec_l1Has.l0] at H
   by_cases c3 : x5_1 < (l0.length : Int)
   ·rw [if_pos c3] at H
    have c3b0 : decide (x5_1 < (l0.length : Int)) = true := decide_eq_true c3
    clear c3
    by_cases c4 : 0 ≤ x5_1
    ·rw [if_pos c4] at H
     have c4b0 : decide (0 ≤ x5_1) = true := decide_eq_true c4
     clear c4
     by_cases c5 : (rd l0 x5_1) = a1
     ·rw [if_pos c5] at H
      have c5b0 : ((rd l0 x5_1) == a1) = true := beq_iff_eq.mpr c5
      have c5b1 : ((rd l0 x5_1) != a1) = false := bne_eq_false_iff_eq.mpr c5
      clear c5
      obtain rfl := Option.some.inj H
      have p378 : 0 ≤ (x5_1 : Int) := of_decide_eq_true za
      have q6 : x5_1 < (l0.length : Int) := of_decide_eq_true za
      obtain ⟨ad6, e378, hx6_0⟩ := Kd.at_int HR0.out x5_1 p378 q6
      cases e378
      replace p378 := eq_true p378
      replace q6 := eq_true q6
      go_wp2
      go_ret
      exact ⟨zs, zd⟩
     rw [if_neg c5] at H
     have c5b0 : ((rd l0 x5_1) == a1) = false := beq_eq_false_iff_ne.mpr c5
     have c5b1 : ((rd l0 x5_1) != a1) = true := bne_iff_ne.mpr c5
     have H' := Aside0.mk H
     clear H
     have p378 : 0 ≤ (x5_1 : Int) := of_decide_eq_true za
     have q6 : x5_1 < (l0.length : Int) := of_decide_eq_true za
     obtain ⟨ad6, e378, hx6_0⟩ := Kd.at_int HR0.out x5_1 p378 q6
     cases e378
     replace p378 := eq_true p378
     replace q6 := eq_true q6
     go_wp2
     go_roundg k1
     case measure => have := HK1.out; omega
     case rel => exact ⟨(wrap64 (x5_1 + 1)), zs, H', ⟨by have := HK1.out; omega⟩, zd⟩
    rw [if_neg c4] at H
    exact absurd H (by simp)
   rw [if_neg c3] at H
   have c3b0 : decide (x5_1 < (l0.length : Int)) = false := decide_eq_false c3
   clear c3
   obtain rfl := Option.some.inj H
   go_wp2
   go_ret
   exact ⟨zs, zd⟩
set_option maxHeartbeats 8000000 in
set_option maxRecDepth 100000 in
theorem spec_l3Back.calls (k : Nat) (A0 : Option Addr) (c0 : Nat) (l0 : List (S48)) (a1 : Int) (r : List Int) (w : World) (hr0 : Kd.C k48 w A0 l0.length l0) (hc0 : l0.length ≤ c0) (h : spec_l3Back.f k l0 a1 = some r) :
 Calls Try.prog 54 #[.slice A0 l0.length c0, .int .i64 a1] w fun e w' => ∃ v0_ : Value, e = .returned (v0_) ∧ Kd.R (Kd.int .i64) 2 w' w.heap.size (fun _ => True) v0_ r ∧ Below w.heap.size w w' := by
 have hu48 := Try.underlying48
 have HR0 := Aside0.mk hr0
 have HC0 := Aside0.mk hc0
 clear hr0 hc0
 have HB := Aside0.mk (Below.refl w.heap.size w)
 have H : (spec_l3Back.l0 k l0 a1 (([] : List Int)) (([] : List Int)) (wrap64 ((l0.length : Int) - 1))) = some r := h
 clear h
 obtain ⟨y53, hy53⟩ : ∃ y_ : List Int, y_ = (([] : List Int)) := ⟨_, rfl⟩
 replace H : (spec_l3Back.l0 k l0 a1 y53 (([] : List Int)) (wrap64 ((l0.length : Int) - 1))) = some r := by first | (rw [hy53]; with_reducible exact H) | (have H2_ := (Option.bind_some _ _).symm.trans H; rw [hy53]; with_reducible exact H2_) | (have H2_ := (Option.bind_some _ _).symm.trans H; with_reducible exact H2_) | with_reducible exact H | (rw [hy53]; exact H) | exact H
 have Ny53 := Aside0.mk hy53
 clear hy53
 obtain ⟨y55, hy55⟩ : ∃ y_ : List Int, y_ = (([] : List Int)) := ⟨_, rfl⟩
 replace H : (spec_l3Back.l0 k l0 a1 y53 y55 (wrap64 ((l0.length : Int) - 1))) = some r := by first | (rw [hy55]; with_reducible exact H) | (have H2_ := (Option.bind_some _ _).symm.trans H; rw [hy55]; with_reducible exact H2_) | (have H2_ := (Option.bind_some _ _).symm.trans H; with_reducible exact H2_) | with_reducible exact H | (rw [hy55]; exact H) | exact H
 have Ny55 := Aside0.mk hy55
 clear hy55
 have H' := Aside0.mk H
 clear H
 go_enter Try.func54, Try.ntmps54
 go_wp2_with (first | ((with_reducible refine gate_dst (N := 9) rfl ?_); refine Kd.R_lit (Kd.int .i64) _ 2 ?hg (N := 9) ?hd (xs := ([] : List Int)) (inner := []) (ok := fun _ => True) (okp := fun _ => True) ?hr ?hp (fun _ hk => hk) trivial (Below.refl _ _) (Nat.le_refl _) (by simp) ?_; (case hd => rfl); (case hg => rfl); (case hr => first | (go_simp; done) | (go_simp; rfl)); (case hp => exact (Reps.none _ _)); intro v68 w3 ho4 hb hg_ hnew_; clear hg_ hnew_; (first | rw [← Ny53.out] at ho4 | (simp only [Int.reduceToNat] at ho4; rw [← Ny53.out] at ho4)); have n0_ := Aside0.mk (Kd.R_lower ho4 (below_size zb)); have n1_ := Aside0.mk (below_step zb hb); clear HB; have HO58 := n0_; have HB := n1_; clear n0_ n1_; clear hb ho4) | ((with_reducible refine gate_dst (N := 10) rfl ?_); refine Kd.R_lit (Kd.int .i64) _ 2 ?hg (N := 10) ?hd (xs := ([] : List Int)) (inner := []) (ok := fun _ => True) (okp := fun _ => True) ?hr ?hp (fun _ hk => hk) trivial (Below.refl _ _) (Nat.le_refl _) (by simp) ?_; (case hd => rfl); (case hg => rfl); (case hr => first | (go_simp; done) | (go_simp; rfl)); (case hp => exact (Reps.none _ _)); intro v69 w5 ho6 hb hg_ hnew_; clear hg_ hnew_; (first | rw [← Ny55.out] at ho6 | (simp only [Int.reduceToNat] at ho6; rw [← Ny55.out] at ho6)); have n0_ := Aside0.mk (Kd.R_elder' (by (with_reducible repeat (first | apply Kd.R_alloc | apply Kd.R_drewN | apply Kd.R_drew)); exact HO58.out) (Kd.R_base ho6) hb); have n1_ := Aside0.mk (Kd.R_lower (Kd.R_new' ho6 (Kd.R_lt (by (with_reducible repeat (first | apply Kd.R_alloc | apply Kd.R_drewN | apply Kd.R_drew)); exact HO58.out))) (below_size zb)); have n2_ := Aside0.mk (below_step zb hb); clear HO58; clear HB; have HO58 := n0_; have HO65 := n1_; have HB := n2_; clear n0_ n1_ n2_; clear hb ho6))
 go_loopg [5, 6, 7] k (fun kq v5 v6 v7 w' => ∃ (x5_1 : List Int) (x6_1 : List Int) (x7_1 : Int), v7 = .int .i64 x7_1 ∧ Aside0 (spec_l3Back.l0 kq l0 a1 x5_1 x6_1 x7_1 = some r) ∧ Aside0 (kq ≤ k) ∧ Aside0 (Kd.R (Kd.int .i64) 2 w' w.heap.size (fun k_ => some k_ ≠ (v6 : Value).ownBlock) v5 x5_1) ∧ Aside0 (Kd.R (Kd.int .i64) 2 w' w.heap.size (fun k_ => some k_ ≠ (v5 : Value).ownBlock) v6 x6_1) ∧ Aside0 (Below w.heap.size w w'))
 case atStart => exact ⟨(y53), (y55), (wrap64 ((l0.length : Int) - 1)), zs, H', ⟨Nat.le_refl _⟩, ⟨by (with_reducible repeat (first | apply Kd.R_alloc | apply Kd.R_drewN | apply Kd.R_drew)); exact Kd.R_mono HO58.out (fun _ hk => hk.2)⟩, ⟨by (with_reducible repeat (first | apply Kd.R_alloc | apply Kd.R_drewN | apply Kd.R_drew)); exact Kd.R_mono HO65.out (fun _ hk => hk.2)⟩, ⟨zb⟩⟩
 case round =>
  clear H'
  try clear p2
  try clear c5
  try clear p6
  obtain ⟨x5_1, x6_1, x7_1, rfl, HA, HK1, HO_5, HO_6, HB⟩ := hrel
  cases gk with
  | zero => exact absurd HA.out (by simp [spec_l3Back.l0])
  | succ k1 =>
   have H := HA.out
   clear HA
   simp only [spec_l3Back.l0] at H
   by_cases c7 : x7_1 ≥ 0
   ·rw [if_pos c7] at H
    have c7b0 : decide (0 ≤ x7_1) = true := decide_eq_true c7
    clear c7
    by_cases c8 : 0 ≤ x7_1
    ·rw [if_pos c8] at H
     have c8b0 : decide (0 ≤ x7_1) = true := decide_eq_true c8
     clear c8
     by_cases c9 : x7_1 < (l0.length : Int)
     ·rw [if_pos c9] at H
      have c9b0 : decide (x7_1 < (l0.length : Int)) = true := decide_eq_true c9
      clear c9
      by_cases c10 : ((rd_T48 l0 x7_1).f1) = a1
      ·rw [if_pos c10] at H
       have c10b0 : (((rd_T48 l0 x7_1).f1) == a1) = true := beq_iff_eq.mpr c10
       have c10b1 : (((rd_T48 l0 x7_1).f1) != a1) = false := bne_eq_false_iff_eq.mpr c10
       clear c10
       by_cases c11 : ((rd_T48 l0 x7_1).f0) = 5
       ·rw [if_pos c11] at H
        have c11b0 : (((rd_T48 l0 x7_1).f0) == 5) = true := beq_iff_eq.mpr c11
        have c11b1 : (((rd_T48 l0 x7_1).f0) != 5) = false := bne_eq_false_iff_eq.mpr c11
        clear c11
        by_cases c12 : x5_1.length < 17592186044416
        ·rw [if_pos c12] at H
         have LMc12 := Aside0.mk c12
         clear c12
         obtain ⟨y51, hy51⟩ : ∃ y_ : List Int, y_ = (x5_1 ++ [(rd_T48 l0 x7_1).f7]) := ⟨_, rfl⟩
         replace H : (if ((rd_T48 l0 x7_1).f0) = 2 then ((spec_l1Has.f k1 y51 (wrap64 (x7_1 + 1))).bind fun t59 => (if t59 = true then (spec_l3Back.l0 k1 l0 a1 y51 x6_1 (wrap64 (x7_1 - 1))) else (if x6_1.length < 17592186044416 then (spec_l3Back.l0 k1 l0 a1 y51 (x6_1 ++ [wrap64 (x7_1 + 1)]) (wrap64 (x7_1 - 1))) else (none)))) else (spec_l3Back.l0 k1 l0 a1 y51 x6_1 (wrap64 (x7_1 - 1)))) = some r := by first | (rw [hy51]; with_reducible exact H) | (have H2_ := (Option.bind_some _ _).symm.trans H; rw [hy51]; with_reducible exact H2_) | (have H2_ := (Option.bind_some _ _).symm.trans H; with_reducible exact H2_) | with_reducible exact H | (rw [hy51]; exact H) | exact H
         have Ny51 := Aside0.mk hy51
         clear hy51
         by_cases c13 : ((rd_T48 l0 x7_1).f0) = 2
         ·rw [if_pos c13] at H
          have c13b0 : (((rd_T48 l0 x7_1).f0) == 2) = true := beq_iff_eq.mpr c13
          have c13b1 : (((rd_T48 l0 x7_1).f0) != 2) = false := bne_eq_false_iff_eq.mpr c13
          clear c13
          replace H := Option.bind_eq_some_iff.mp H
          obtain ⟨t59, A60, H⟩ := H
          replace H : (if t59 = true then (spec_l3Back.l0 k1 l0 a1 y51 x6_1 (wrap64 (x7_1 - 1))) else (if x6_1.length < 17592186044416 then (spec_l3Back.l0 k1 l0 a1 y51 (x6_1 ++ [wrap64 (x7_1 + 1)]) (wrap64 (x7_1 - 1))) else (none))) = some r := H
          have A14 := Aside0.mk A60
          clear A60
          by_cases c15 : t59 = true
          ·subst c15
           have H1 : (spec_l3Back.l0 k1 l0 a1 y51 x6_1 (wrap64 (x7_1 - 1))) = some r := by rw [if_pos rfl] at H; exact H
           clear H
           have H := H1
           clear H1
           have H' := Aside0.mk H
           clear H
           have p385 : 0 ≤ (x7_1 : Int) := of_decide_eq_true za
           have q50 : x7_1 < (l0.length : Int) := of_decide_eq_true za
           obtain ⟨ad50, e385, hx50_0, hx50_1, hx50_2, hx50_3, hx50_4, hx50_5, hx50_6, hx50_7⟩ := at_T48 (Kd.C_below HR0.out HB.out) x7_1 p385 q50
           cases e385
           replace p385 := eq_true p385
           replace q50 := eq_true q50
           go_wp2_with (first | ((with_reducible refine gate_dst (N := 8) rfl ?_); refine box_event ?hg (N := 8) ?hd (cs := #[.int .i64 0, .int .i64 0, .int .i64 0, .bool false, .int .i64 0, .bool false, .int .i64 0, .int .i64 0]) (t := 48) ?hr ?_; (case hd => rfl); (case hg => rfl); (case hr => first | (go_simp; done) | (go_simp; rfl)); intro gb49 hg w16 hbox hb; have n0_ := Aside0.mk (Kd.R_below (by (with_reducible repeat (first | apply Kd.R_alloc | apply Kd.R_drewN | apply Kd.R_drew)); exact HO_5.out) hb); have n1_ := Aside0.mk (Kd.R_below (by (with_reducible repeat (first | apply Kd.R_alloc | apply Kd.R_drewN | apply Kd.R_drew)); exact HO_6.out) hb); have n2_ := Aside0.mk (below_step zb hb); have n3_ := Aside0.mk (hbox); have n4_ := Aside0.mk ((by rw [hg]; exact (below_size zb) : w.heap.size ≤ gb49)); have n5_ := n4_; clear HO_5; clear HO_6; clear HB; have HO_5 := n0_; have HO_6 := n1_; have HB := n2_; have BK49 := n3_; have GW49 := n4_; have GE49 := n5_; clear n0_ n1_ n2_ n3_ n4_ n5_; clear hb hbox hg; obtain ⟨hcz17_0, hcz17_1, hcz17_2, hcz17_3, hcz17_4, hcz17_5, hcz17_6, hcz17_7, hfz17_0, hfz17_1, hfz17_2, hfz17_3, hfz17_4, hfz17_5, hfz17_6, hfz17_7⟩ := Lv.blks8 BK49.out) | ((with_reducible refine gate_builtin (b := .append) (xs := #[.tmp 29, .tmp 32]) rfl ?_); at_builtin; refine Kd.R_append (Kd.int .i64) (w0 := w) w.heap.size rfl (.tmp 29) (.tmp 32) 33 2 (.int .i64 0) 8 rfl Try.underlying33 info2 rfl (by decide) (by omega) u5 x5_1 ((rd_T48 l0 x7_1).f7) [.int .i64 ((rd_T48 l0 x7_1).f7)] (fun k_ => some k_ ≠ (u6 : Value).ownBlock) (fun _ => False) rfl (by first | exact (congrArg (fun n_ => Value.slice (some ⟨n_, 0, none⟩) 1 1) (by simp [World.setCell])) | (go_simp; done) | (go_simp; rfl)) ?aP (fun _ hk => hk.elim) ?aF ?aO ?aB ?aS ?aL ?_; (case aP => exact rfl); (case aB => exact zb); (case aF => exact (fun k_ hk => Kd.fresh' (Kd.R_lt (by (with_reducible repeat (first | apply Kd.R_alloc | apply Kd.R_drewN | apply Kd.R_drew)); exact (Kd.R_mono (Kd.R_far (p := ⟨gb49, 7, none⟩) (Kd.R_far (p := ⟨gb49, 6, none⟩) (Kd.R_far (p := ⟨gb49, 5, none⟩) (Kd.R_far (p := ⟨gb49, 4, none⟩) (Kd.R_far (p := ⟨gb49, 3, none⟩) (Kd.R_far (p := ⟨gb49, 2, none⟩) (Kd.R_far (p := ⟨gb49, 1, none⟩) (Kd.R_far (p := ⟨gb49, 0, none⟩) (Kd.R_types HO_6.out BK49.out (by decide)) (fun _ hk => hk.2) (.int .i64 ((rd_T48 l0 x7_1).f0))) (fun _ hk => hk.2) (.int .i64 ((rd_T48 l0 x7_1).f1))) (fun _ hk => hk.2) (.int .i64 ((rd_T48 l0 x7_1).f2))) (fun _ hk => hk.2) (.bool ((rd_T48 l0 x7_1).f3))) (fun _ hk => hk.2) (.int .i64 ((rd_T48 l0 x7_1).f4))) (fun _ hk => hk.2) (.bool ((rd_T48 l0 x7_1).f5))) (fun _ hk => hk.2) (.int .i64 ((rd_T48 l0 x7_1).f6))) (fun _ hk => hk.2) (.int .i64 ((rd_T48 l0 x7_1).f7))) (fun _ h_ => h_.1)))) k_ hk)); (case aO => exact (by (with_reducible repeat (first | apply Kd.R_alloc | apply Kd.R_drewN | apply Kd.R_drew)); exact Kd.R_mono (Kd.R_far (p := ⟨gb49, 7, none⟩) (Kd.R_far (p := ⟨gb49, 6, none⟩) (Kd.R_far (p := ⟨gb49, 5, none⟩) (Kd.R_far (p := ⟨gb49, 4, none⟩) (Kd.R_far (p := ⟨gb49, 3, none⟩) (Kd.R_far (p := ⟨gb49, 2, none⟩) (Kd.R_far (p := ⟨gb49, 1, none⟩) (Kd.R_far (p := ⟨gb49, 0, none⟩) (Kd.R_types HO_5.out BK49.out (by decide)) (fun _ hk => hk.2) (.int .i64 ((rd_T48 l0 x7_1).f0))) (fun _ hk => hk.2) (.int .i64 ((rd_T48 l0 x7_1).f1))) (fun _ hk => hk.2) (.int .i64 ((rd_T48 l0 x7_1).f2))) (fun _ hk => hk.2) (.bool ((rd_T48 l0 x7_1).f3))) (fun _ hk => hk.2) (.int .i64 ((rd_T48 l0 x7_1).f4))) (fun _ hk => hk.2) (.bool ((rd_T48 l0 x7_1).f5))) (fun _ hk => hk.2) (.int .i64 ((rd_T48 l0 x7_1).f6))) (fun _ hk => hk.2) (.int .i64 ((rd_T48 l0 x7_1).f7))) (fun _ hk => hk.1))); (case aS => exact (below_size zb)); (case aL => have := LMc12.out; omega); intro v61 w18 ho hb hg hat; rw [← Ny51.out] at ho; have n0_ := Aside0.mk (Kd.R_after (ok := (fun _ => True)) (by (with_reducible repeat (first | apply Kd.R_alloc | apply Kd.R_drewN | apply Kd.R_drew)); exact Kd.R_mono (Kd.R_far (p := ⟨gb49, 7, none⟩) (Kd.R_far (p := ⟨gb49, 6, none⟩) (Kd.R_far (p := ⟨gb49, 5, none⟩) (Kd.R_far (p := ⟨gb49, 4, none⟩) (Kd.R_far (p := ⟨gb49, 3, none⟩) (Kd.R_far (p := ⟨gb49, 2, none⟩) (Kd.R_far (p := ⟨gb49, 1, none⟩) (Kd.R_far (p := ⟨gb49, 0, none⟩) (Kd.R_types HO_6.out BK49.out (by decide)) (fun _ hk => hk.2) (.int .i64 ((rd_T48 l0 x7_1).f0))) (fun _ hk => hk.2) (.int .i64 ((rd_T48 l0 x7_1).f1))) (fun _ hk => hk.2) (.int .i64 ((rd_T48 l0 x7_1).f2))) (fun _ hk => hk.2) (.bool ((rd_T48 l0 x7_1).f3))) (fun _ hk => hk.2) (.int .i64 ((rd_T48 l0 x7_1).f4))) (fun _ hk => hk.2) (.bool ((rd_T48 l0 x7_1).f5))) (fun _ hk => hk.2) (.int .i64 ((rd_T48 l0 x7_1).f6))) (fun _ hk => hk.2) (.int .i64 ((rd_T48 l0 x7_1).f7))) (fun _ hk => ⟨trivial, hk.1⟩)) hg hat); have n1_ := Aside0.mk (blk_grown (g := gb49) (o := .cells #[.int .i64 ((rd_T48 l0 x7_1).f0), .int .i64 ((rd_T48 l0 x7_1).f1), .int .i64 ((rd_T48 l0 x7_1).f2), .bool ((rd_T48 l0 x7_1).f3), .int .i64 ((rd_T48 l0 x7_1).f4), .bool ((rd_T48 l0 x7_1).f5), .int .i64 ((rd_T48 l0 x7_1).f6), .int .i64 ((rd_T48 l0 x7_1).f7)] 48 (0, 0)) (by (with_reducible repeat (first | refine blk_drewN ?_ _ | refine blk_drew ?_ | refine blk_alloc ?_ _)); refine blk_put (cs := #[.int .i64 ((rd_T48 l0 x7_1).f0), .int .i64 ((rd_T48 l0 x7_1).f1), .int .i64 ((rd_T48 l0 x7_1).f2), .bool ((rd_T48 l0 x7_1).f3), .int .i64 ((rd_T48 l0 x7_1).f4), .bool ((rd_T48 l0 x7_1).f5), .int .i64 ((rd_T48 l0 x7_1).f6), .int .i64 0]) ?_ 7 _ rfl; (with_reducible repeat (first | refine blk_drewN ?_ _ | refine blk_drew ?_ | refine blk_alloc ?_ _)); refine blk_put (cs := #[.int .i64 ((rd_T48 l0 x7_1).f0), .int .i64 ((rd_T48 l0 x7_1).f1), .int .i64 ((rd_T48 l0 x7_1).f2), .bool ((rd_T48 l0 x7_1).f3), .int .i64 ((rd_T48 l0 x7_1).f4), .bool ((rd_T48 l0 x7_1).f5), .int .i64 0, .int .i64 0]) ?_ 6 _ rfl; (with_reducible repeat (first | refine blk_drewN ?_ _ | refine blk_drew ?_ | refine blk_alloc ?_ _)); refine blk_put (cs := #[.int .i64 ((rd_T48 l0 x7_1).f0), .int .i64 ((rd_T48 l0 x7_1).f1), .int .i64 ((rd_T48 l0 x7_1).f2), .bool ((rd_T48 l0 x7_1).f3), .int .i64 ((rd_T48 l0 x7_1).f4), .bool false, .int .i64 0, .int .i64 0]) ?_ 5 _ rfl; (with_reducible repeat (first | refine blk_drewN ?_ _ | refine blk_drew ?_ | refine blk_alloc ?_ _)); refine blk_put (cs := #[.int .i64 ((rd_T48 l0 x7_1).f0), .int .i64 ((rd_T48 l0 x7_1).f1), .int .i64 ((rd_T48 l0 x7_1).f2), .bool ((rd_T48 l0 x7_1).f3), .int .i64 0, .bool false, .int .i64 0, .int .i64 0]) ?_ 4 _ rfl; (with_reducible repeat (first | refine blk_drewN ?_ _ | refine blk_drew ?_ | refine blk_alloc ?_ _)); refine blk_put (cs := #[.int .i64 ((rd_T48 l0 x7_1).f0), .int .i64 ((rd_T48 l0 x7_1).f1), .int .i64 ((rd_T48 l0 x7_1).f2), .bool false, .int .i64 0, .bool false, .int .i64 0, .int .i64 0]) ?_ 3 _ rfl; (with_reducible repeat (first | refine blk_drewN ?_ _ | refine blk_drew ?_ | refine blk_alloc ?_ _)); refine blk_put (cs := #[.int .i64 ((rd_T48 l0 x7_1).f0), .int .i64 ((rd_T48 l0 x7_1).f1), .int .i64 0, .bool false, .int .i64 0, .bool false, .int .i64 0, .int .i64 0]) ?_ 2 _ rfl; (with_reducible repeat (first | refine blk_drewN ?_ _ | refine blk_drew ?_ | refine blk_alloc ?_ _)); refine blk_put (cs := #[.int .i64 ((rd_T48 l0 x7_1).f0), .int .i64 0, .int .i64 0, .bool false, .int .i64 0, .bool false, .int .i64 0, .int .i64 0]) ?_ 1 _ rfl; (with_reducible repeat (first | refine blk_drewN ?_ _ | refine blk_drew ?_ | refine blk_alloc ?_ _)); refine blk_put (cs := #[.int .i64 0, .int .i64 0, .int .i64 0, .bool false, .int .i64 0, .bool false, .int .i64 0, .int .i64 0]) ?_ 0 _ rfl; (with_reducible repeat (first | refine blk_drewN ?_ _ | refine blk_drew ?_ | refine blk_alloc ?_ _)); exact BK49.out) hg (Kd.R_ne HO_5.out BK49.out (by decide))); have n2_ := Aside0.mk (hb); have n3_ := Aside0.mk (ho); clear HO_6; clear BK49; clear HB; clear HO_5; have HO_6 := n0_; have BK49 := n1_; have HB := n2_; have HO52 := n3_; clear n0_ n1_ n2_ n3_; clear ho hb hg hat; obtain ⟨hcz19_0, hcz19_1, hcz19_2, hcz19_3, hcz19_4, hcz19_5, hcz19_6, hcz19_7, hfz19_0, hfz19_1, hfz19_2, hfz19_3, hfz19_4, hfz19_5, hfz19_6, hfz19_7⟩ := Lv.blks8 BK49.out; obtain ⟨Ao20, co20, eo20⟩ := Kd.R_slice HO52.out; subst eo20) | (go_at_call 87; (with_reducible refine (spec_l1Has.calls k1 _ _ y51 (wrap64 (x7_1 + 1)) true _ ?side1 ?side2 A14.out).mono ?_); (case side1 => repeat (first | exact (Kd.R_reads' HO52.out).2.2 | (with_reducible first | refine Kd.C_alloc ?_ _ | refine Kd.C_drewN ?_ _ | refine Kd.C_drew ?_))); (case side2 => exact (Kd.R_reads' HO52.out).2.1); rintro e w' ⟨rfl, ⟨nd, rfl⟩⟩))
           go_roundg k1
           case measure => have := HK1.out; omega
           case rel => exact ⟨(y51), (x6_1), (wrap64 (x7_1 - 1)), zs, H', ⟨by have := HK1.out; omega⟩, ⟨by (with_reducible repeat (first | apply Kd.R_alloc | apply Kd.R_drewN | apply Kd.R_drew)); exact HO52.out⟩, ⟨by (with_reducible repeat (first | apply Kd.R_alloc | apply Kd.R_drewN | apply Kd.R_drew)); exact Kd.R_mono HO_6.out (fun _ hk => hk.2)⟩, ⟨zb⟩⟩
          replace c15 := Bool.eq_false_iff.mpr c15
          subst c15
          have H1 : (if x6_1.length < 17592186044416 then (spec_l3Back.l0 k1 l0 a1 y51 (x6_1 ++ [wrap64 (x7_1 + 1)]) (wrap64 (x7_1 - 1))) else (none)) = some r := by rw [if_neg (show ¬ (false = true) by decide)] at H; exact H
          clear H
          have H := H1
          clear H1
          by_cases c21 : x6_1.length < 17592186044416
          ·rw [if_pos c21] at H
           have LMc21 := Aside0.mk c21
           clear c21
           obtain ⟨y56, hy56⟩ : ∃ y_ : List Int, y_ = (x6_1 ++ [wrap64 (x7_1 + 1)]) := ⟨_, rfl⟩
           replace H : (spec_l3Back.l0 k1 l0 a1 y51 y56 (wrap64 (x7_1 - 1))) = some r := by first | (rw [hy56]; with_reducible exact H) | (have H2_ := (Option.bind_some _ _).symm.trans H; rw [hy56]; with_reducible exact H2_) | (have H2_ := (Option.bind_some _ _).symm.trans H; with_reducible exact H2_) | with_reducible exact H | (rw [hy56]; exact H) | exact H
           have Ny56 := Aside0.mk hy56
           clear hy56
           have H' := Aside0.mk H
           clear H
           have p385 : 0 ≤ (x7_1 : Int) := of_decide_eq_true za
           have q50 : x7_1 < (l0.length : Int) := of_decide_eq_true za
           obtain ⟨ad50, e385, hx50_0, hx50_1, hx50_2, hx50_3, hx50_4, hx50_5, hx50_6, hx50_7⟩ := at_T48 (Kd.C_below HR0.out HB.out) x7_1 p385 q50
           cases e385
           replace p385 := eq_true p385
           replace q50 := eq_true q50
           go_wp2_with (first | ((with_reducible refine gate_dst (N := 8) rfl ?_); refine box_event ?hg (N := 8) ?hd (cs := #[.int .i64 0, .int .i64 0, .int .i64 0, .bool false, .int .i64 0, .bool false, .int .i64 0, .int .i64 0]) (t := 48) ?hr ?_; (case hd => rfl); (case hg => rfl); (case hr => first | (go_simp; done) | (go_simp; rfl)); intro gb49 hg w22 hbox hb; have n0_ := Aside0.mk (Kd.R_below (by (with_reducible repeat (first | apply Kd.R_alloc | apply Kd.R_drewN | apply Kd.R_drew)); exact HO_5.out) hb); have n1_ := Aside0.mk (Kd.R_below (by (with_reducible repeat (first | apply Kd.R_alloc | apply Kd.R_drewN | apply Kd.R_drew)); exact HO_6.out) hb); have n2_ := Aside0.mk (below_step zb hb); have n3_ := Aside0.mk (hbox); have n4_ := Aside0.mk ((by rw [hg]; exact (below_size zb) : w.heap.size ≤ gb49)); have n5_ := n4_; clear HO_5; clear HO_6; clear HB; have HO_5 := n0_; have HO_6 := n1_; have HB := n2_; have BK49 := n3_; have GW49 := n4_; have GE49 := n5_; clear n0_ n1_ n2_ n3_ n4_ n5_; clear hb hbox hg; obtain ⟨hcz23_0, hcz23_1, hcz23_2, hcz23_3, hcz23_4, hcz23_5, hcz23_6, hcz23_7, hfz23_0, hfz23_1, hfz23_2, hfz23_3, hfz23_4, hfz23_5, hfz23_6, hfz23_7⟩ := Lv.blks8 BK49.out) | ((with_reducible refine gate_builtin (b := .append) (xs := #[.tmp 29, .tmp 32]) rfl ?_); at_builtin; refine Kd.R_append (Kd.int .i64) (w0 := w) w.heap.size rfl (.tmp 29) (.tmp 32) 33 2 (.int .i64 0) 8 rfl Try.underlying33 info2 rfl (by decide) (by omega) u5 x5_1 ((rd_T48 l0 x7_1).f7) [.int .i64 ((rd_T48 l0 x7_1).f7)] (fun k_ => some k_ ≠ (u6 : Value).ownBlock) (fun _ => False) rfl (by first | exact (congrArg (fun n_ => Value.slice (some ⟨n_, 0, none⟩) 1 1) (by simp [World.setCell])) | (go_simp; done) | (go_simp; rfl)) ?aP (fun _ hk => hk.elim) ?aF ?aO ?aB ?aS ?aL ?_; (case aP => exact rfl); (case aB => exact zb); (case aF => exact (fun k_ hk => Kd.fresh' (Kd.R_lt (by (with_reducible repeat (first | apply Kd.R_alloc | apply Kd.R_drewN | apply Kd.R_drew)); exact (Kd.R_mono (Kd.R_far (p := ⟨gb49, 7, none⟩) (Kd.R_far (p := ⟨gb49, 6, none⟩) (Kd.R_far (p := ⟨gb49, 5, none⟩) (Kd.R_far (p := ⟨gb49, 4, none⟩) (Kd.R_far (p := ⟨gb49, 3, none⟩) (Kd.R_far (p := ⟨gb49, 2, none⟩) (Kd.R_far (p := ⟨gb49, 1, none⟩) (Kd.R_far (p := ⟨gb49, 0, none⟩) (Kd.R_types HO_6.out BK49.out (by decide)) (fun _ hk => hk.2) (.int .i64 ((rd_T48 l0 x7_1).f0))) (fun _ hk => hk.2) (.int .i64 ((rd_T48 l0 x7_1).f1))) (fun _ hk => hk.2) (.int .i64 ((rd_T48 l0 x7_1).f2))) (fun _ hk => hk.2) (.bool ((rd_T48 l0 x7_1).f3))) (fun _ hk => hk.2) (.int .i64 ((rd_T48 l0 x7_1).f4))) (fun _ hk => hk.2) (.bool ((rd_T48 l0 x7_1).f5))) (fun _ hk => hk.2) (.int .i64 ((rd_T48 l0 x7_1).f6))) (fun _ hk => hk.2) (.int .i64 ((rd_T48 l0 x7_1).f7))) (fun _ h_ => h_.1)))) k_ hk)); (case aO => exact (by (with_reducible repeat (first | apply Kd.R_alloc | apply Kd.R_drewN | apply Kd.R_drew)); exact Kd.R_mono (Kd.R_far (p := ⟨gb49, 7, none⟩) (Kd.R_far (p := ⟨gb49, 6, none⟩) (Kd.R_far (p := ⟨gb49, 5, none⟩) (Kd.R_far (p := ⟨gb49, 4, none⟩) (Kd.R_far (p := ⟨gb49, 3, none⟩) (Kd.R_far (p := ⟨gb49, 2, none⟩) (Kd.R_far (p := ⟨gb49, 1, none⟩) (Kd.R_far (p := ⟨gb49, 0, none⟩) (Kd.R_types HO_5.out BK49.out (by decide)) (fun _ hk => hk.2) (.int .i64 ((rd_T48 l0 x7_1).f0))) (fun _ hk => hk.2) (.int .i64 ((rd_T48 l0 x7_1).f1))) (fun _ hk => hk.2) (.int .i64 ((rd_T48 l0 x7_1).f2))) (fun _ hk => hk.2) (.bool ((rd_T48 l0 x7_1).f3))) (fun _ hk => hk.2) (.int .i64 ((rd_T48 l0 x7_1).f4))) (fun _ hk => hk.2) (.bool ((rd_T48 l0 x7_1).f5))) (fun _ hk => hk.2) (.int .i64 ((rd_T48 l0 x7_1).f6))) (fun _ hk => hk.2) (.int .i64 ((rd_T48 l0 x7_1).f7))) (fun _ hk => hk.1))); (case aS => exact (below_size zb)); (case aL => have := LMc12.out; omega); intro v61 w24 ho hb hg hat; rw [← Ny51.out] at ho; have n0_ := Aside0.mk (Kd.R_after (ok := (fun _ => True)) (by (with_reducible repeat (first | apply Kd.R_alloc | apply Kd.R_drewN | apply Kd.R_drew)); exact Kd.R_mono (Kd.R_far (p := ⟨gb49, 7, none⟩) (Kd.R_far (p := ⟨gb49, 6, none⟩) (Kd.R_far (p := ⟨gb49, 5, none⟩) (Kd.R_far (p := ⟨gb49, 4, none⟩) (Kd.R_far (p := ⟨gb49, 3, none⟩) (Kd.R_far (p := ⟨gb49, 2, none⟩) (Kd.R_far (p := ⟨gb49, 1, none⟩) (Kd.R_far (p := ⟨gb49, 0, none⟩) (Kd.R_types HO_6.out BK49.out (by decide)) (fun _ hk => hk.2) (.int .i64 ((rd_T48 l0 x7_1).f0))) (fun _ hk => hk.2) (.int .i64 ((rd_T48 l0 x7_1).f1))) (fun _ hk => hk.2) (.int .i64 ((rd_T48 l0 x7_1).f2))) (fun _ hk => hk.2) (.bool ((rd_T48 l0 x7_1).f3))) (fun _ hk => hk.2) (.int .i64 ((rd_T48 l0 x7_1).f4))) (fun _ hk => hk.2) (.bool ((rd_T48 l0 x7_1).f5))) (fun _ hk => hk.2) (.int .i64 ((rd_T48 l0 x7_1).f6))) (fun _ hk => hk.2) (.int .i64 ((rd_T48 l0 x7_1).f7))) (fun _ hk => ⟨trivial, hk.1⟩)) hg hat); have n1_ := Aside0.mk (blk_grown (g := gb49) (o := .cells #[.int .i64 ((rd_T48 l0 x7_1).f0), .int .i64 ((rd_T48 l0 x7_1).f1), .int .i64 ((rd_T48 l0 x7_1).f2), .bool ((rd_T48 l0 x7_1).f3), .int .i64 ((rd_T48 l0 x7_1).f4), .bool ((rd_T48 l0 x7_1).f5), .int .i64 ((rd_T48 l0 x7_1).f6), .int .i64 ((rd_T48 l0 x7_1).f7)] 48 (0, 0)) (by (with_reducible repeat (first | refine blk_drewN ?_ _ | refine blk_drew ?_ | refine blk_alloc ?_ _)); refine blk_put (cs := #[.int .i64 ((rd_T48 l0 x7_1).f0), .int .i64 ((rd_T48 l0 x7_1).f1), .int .i64 ((rd_T48 l0 x7_1).f2), .bool ((rd_T48 l0 x7_1).f3), .int .i64 ((rd_T48 l0 x7_1).f4), .bool ((rd_T48 l0 x7_1).f5), .int .i64 ((rd_T48 l0 x7_1).f6), .int .i64 0]) ?_ 7 _ rfl; (with_reducible repeat (first | refine blk_drewN ?_ _ | refine blk_drew ?_ | refine blk_alloc ?_ _)); refine blk_put (cs := #[.int .i64 ((rd_T48 l0 x7_1).f0), .int .i64 ((rd_T48 l0 x7_1).f1), .int .i64 ((rd_T48 l0 x7_1).f2), .bool ((rd_T48 l0 x7_1).f3), .int .i64 ((rd_T48 l0 x7_1).f4), .bool ((rd_T48 l0 x7_1).f5), .int .i64 0, .int .i64 0]) ?_ 6 _ rfl; (with_reducible repeat (first | refine blk_drewN ?_ _ | refine blk_drew ?_ | refine blk_alloc ?_ _)); refine blk_put (cs := #[.int .i64 ((rd_T48 l0 x7_1).f0), .int .i64 ((rd_T48 l0 x7_1).f1), .int .i64 ((rd_T48 l0 x7_1).f2), .bool ((rd_T48 l0 x7_1).f3), .int .i64 ((rd_T48 l0 x7_1).f4), .bool false, .int .i64 0, .int .i64 0]) ?_ 5 _ rfl; (with_reducible repeat (first | refine blk_drewN ?_ _ | refine blk_drew ?_ | refine blk_alloc ?_ _)); refine blk_put (cs := #[.int .i64 ((rd_T48 l0 x7_1).f0), .int .i64 ((rd_T48 l0 x7_1).f1), .int .i64 ((rd_T48 l0 x7_1).f2), .bool ((rd_T48 l0 x7_1).f3), .int .i64 0, .bool false, .int .i64 0, .int .i64 0]) ?_ 4 _ rfl; (with_reducible repeat (first | refine blk_drewN ?_ _ | refine blk_drew ?_ | refine blk_alloc ?_ _)); refine blk_put (cs := #[.int .i64 ((rd_T48 l0 x7_1).f0), .int .i64 ((rd_T48 l0 x7_1).f1), .int .i64 ((rd_T48 l0 x7_1).f2), .bool false, .int .i64 0, .bool false, .int .i64 0, .int .i64 0]) ?_ 3 _ rfl; (with_reducible repeat (first | refine blk_drewN ?_ _ | refine blk_drew ?_ | refine blk_alloc ?_ _)); refine blk_put (cs := #[.int .i64 ((rd_T48 l0 x7_1).f0), .int .i64 ((rd_T48 l0 x7_1).f1), .int .i64 0, .bool false, .int .i64 0, .bool false, .int .i64 0, .int .i64 0]) ?_ 2 _ rfl; (with_reducible repeat (first | refine blk_drewN ?_ _ | refine blk_drew ?_ | refine blk_alloc ?_ _)); refine blk_put (cs := #[.int .i64 ((rd_T48 l0 x7_1).f0), .int .i64 0, .int .i64 0, .bool false, .int .i64 0, .bool false, .int .i64 0, .int .i64 0]) ?_ 1 _ rfl; (with_reducible repeat (first | refine blk_drewN ?_ _ | refine blk_drew ?_ | refine blk_alloc ?_ _)); refine blk_put (cs := #[.int .i64 0, .int .i64 0, .int .i64 0, .bool false, .int .i64 0, .bool false, .int .i64 0, .int .i64 0]) ?_ 0 _ rfl; (with_reducible repeat (first | refine blk_drewN ?_ _ | refine blk_drew ?_ | refine blk_alloc ?_ _)); exact BK49.out) hg (Kd.R_ne HO_5.out BK49.out (by decide))); have n2_ := Aside0.mk (hb); have n3_ := Aside0.mk (ho); clear HO_6; clear BK49; clear HB; clear HO_5; have HO_6 := n0_; have BK49 := n1_; have HB := n2_; have HO52 := n3_; clear n0_ n1_ n2_ n3_; clear ho hb hg hat; obtain ⟨hcz25_0, hcz25_1, hcz25_2, hcz25_3, hcz25_4, hcz25_5, hcz25_6, hcz25_7, hfz25_0, hfz25_1, hfz25_2, hfz25_3, hfz25_4, hfz25_5, hfz25_6, hfz25_7⟩ := Lv.blks8 BK49.out; obtain ⟨Ao26, co26, eo26⟩ := Kd.R_slice HO52.out; subst eo26) | (go_at_call 87; (with_reducible refine (spec_l1Has.calls k1 _ _ y51 (wrap64 (x7_1 + 1)) false _ ?side1 ?side2 A14.out).mono ?_); (case side1 => repeat (first | exact (Kd.R_reads' HO52.out).2.2 | (with_reducible first | refine Kd.C_alloc ?_ _ | refine Kd.C_drewN ?_ _ | refine Kd.C_drew ?_))); (case side2 => exact (Kd.R_reads' HO52.out).2.1); rintro e w' ⟨rfl, ⟨nd, rfl⟩⟩) | ((with_reducible refine gate_builtin (b := .append) (xs := #[.tmp 44, .tmp 47]) rfl ?_); at_builtin; refine Kd.R_append (Kd.int .i64) (w0 := w) w.heap.size rfl (.tmp 44) (.tmp 47) 33 2 (.int .i64 0) 8 rfl Try.underlying33 info2 rfl (by decide) (by omega) u6 x6_1 (wrap64 (x7_1 + 1)) [.int .i64 (wrap64 (x7_1 + 1))] (fun k_ => some k_ ≠ (.slice Ao26 y51.length co26 : Value).ownBlock) (fun _ => False) rfl rfl ?aP (fun _ hk => hk.elim) ?aF ?aO ?aB ?aS ?aL ?_; (case aP => exact rfl); (case aB => exact zb); (case aF => exact (fun k_ hk => Kd.fresh' (Kd.R_lt (by (with_reducible repeat (first | apply Kd.R_alloc | apply Kd.R_drewN | apply Kd.R_drew)); exact HO52.out)) k_ hk)); (case aO => exact (by (with_reducible repeat (first | apply Kd.R_alloc | apply Kd.R_drewN | apply Kd.R_drew)); exact Kd.R_mono HO_6.out (fun _ hk => hk.2))); (case aS => exact (below_size zb)); (case aL => have := LMc21.out; omega); intro v70 w27 ho hb hg hat; rw [← Ny56.out] at ho; have n0_ := Aside0.mk (blk_grown (g := gb49) (o := .cells #[.int .i64 ((rd_T48 l0 x7_1).f0), .int .i64 ((rd_T48 l0 x7_1).f1), .int .i64 ((rd_T48 l0 x7_1).f2), .bool ((rd_T48 l0 x7_1).f3), .int .i64 ((rd_T48 l0 x7_1).f4), .bool ((rd_T48 l0 x7_1).f5), .int .i64 ((rd_T48 l0 x7_1).f6), .int .i64 ((rd_T48 l0 x7_1).f7)] 48 (0, 0)) zk hg (Kd.R_ne HO_6.out BK49.out (by decide))); have n1_ := Aside0.mk (Kd.R_after (ok := (fun _ => True)) (by (with_reducible repeat (first | apply Kd.R_alloc | apply Kd.R_drewN | apply Kd.R_drew)); exact Kd.R_mono HO52.out (fun _ hk => ⟨trivial, hk⟩)) hg hat); have n2_ := Aside0.mk (hb); have n3_ := Aside0.mk (ho); clear BK49; clear HO52; clear HB; clear HO_6; have BK49 := n0_; have HO52 := n1_; have HB := n2_; have HO66 := n3_; clear n0_ n1_ n2_ n3_; clear ho hb hg hat))
           go_roundg k1
           case measure => have := HK1.out; omega
           case rel => exact ⟨(y51), (y56), (wrap64 (x7_1 - 1)), zs, H', ⟨by have := HK1.out; omega⟩, ⟨by (with_reducible repeat (first | apply Kd.R_alloc | apply Kd.R_drewN | apply Kd.R_drew)); exact Kd.R_mono HO52.out (fun _ hk => hk.2)⟩, ⟨by (with_reducible repeat (first | apply Kd.R_alloc | apply Kd.R_drewN | apply Kd.R_drew)); exact HO66.out⟩, ⟨zb⟩⟩
          rw [if_neg c21] at H
          exact absurd H (by simp)
         rw [if_neg c13] at H
         have c13b0 : (((rd_T48 l0 x7_1).f0) == 2) = false := beq_eq_false_iff_ne.mpr c13
         have c13b1 : (((rd_T48 l0 x7_1).f0) != 2) = true := bne_iff_ne.mpr c13
         have H' := Aside0.mk H
         clear H
         have p385 : 0 ≤ (x7_1 : Int) := of_decide_eq_true za
         have q50 : x7_1 < (l0.length : Int) := of_decide_eq_true za
         obtain ⟨ad50, e385, hx50_0, hx50_1, hx50_2, hx50_3, hx50_4, hx50_5, hx50_6, hx50_7⟩ := at_T48 (Kd.C_below HR0.out HB.out) x7_1 p385 q50
         cases e385
         replace p385 := eq_true p385
         replace q50 := eq_true q50
         go_wp2_with (first | ((with_reducible refine gate_dst (N := 8) rfl ?_); refine box_event ?hg (N := 8) ?hd (cs := #[.int .i64 0, .int .i64 0, .int .i64 0, .bool false, .int .i64 0, .bool false, .int .i64 0, .int .i64 0]) (t := 48) ?hr ?_; (case hd => rfl); (case hg => rfl); (case hr => first | (go_simp; done) | (go_simp; rfl)); intro gb49 hg w28 hbox hb; have n0_ := Aside0.mk (Kd.R_below (by (with_reducible repeat (first | apply Kd.R_alloc | apply Kd.R_drewN | apply Kd.R_drew)); exact HO_5.out) hb); have n1_ := Aside0.mk (Kd.R_below (by (with_reducible repeat (first | apply Kd.R_alloc | apply Kd.R_drewN | apply Kd.R_drew)); exact HO_6.out) hb); have n2_ := Aside0.mk (below_step zb hb); have n3_ := Aside0.mk (hbox); have n4_ := Aside0.mk ((by rw [hg]; exact (below_size zb) : w.heap.size ≤ gb49)); have n5_ := n4_; clear HO_5; clear HO_6; clear HB; have HO_5 := n0_; have HO_6 := n1_; have HB := n2_; have BK49 := n3_; have GW49 := n4_; have GE49 := n5_; clear n0_ n1_ n2_ n3_ n4_ n5_; clear hb hbox hg; obtain ⟨hcz29_0, hcz29_1, hcz29_2, hcz29_3, hcz29_4, hcz29_5, hcz29_6, hcz29_7, hfz29_0, hfz29_1, hfz29_2, hfz29_3, hfz29_4, hfz29_5, hfz29_6, hfz29_7⟩ := Lv.blks8 BK49.out) | ((with_reducible refine gate_builtin (b := .append) (xs := #[.tmp 29, .tmp 32]) rfl ?_); at_builtin; refine Kd.R_append (Kd.int .i64) (w0 := w) w.heap.size rfl (.tmp 29) (.tmp 32) 33 2 (.int .i64 0) 8 rfl Try.underlying33 info2 rfl (by decide) (by omega) u5 x5_1 ((rd_T48 l0 x7_1).f7) [.int .i64 ((rd_T48 l0 x7_1).f7)] (fun k_ => some k_ ≠ (u6 : Value).ownBlock) (fun _ => False) rfl (by first | exact (congrArg (fun n_ => Value.slice (some ⟨n_, 0, none⟩) 1 1) (by simp [World.setCell])) | (go_simp; done) | (go_simp; rfl)) ?aP (fun _ hk => hk.elim) ?aF ?aO ?aB ?aS ?aL ?_; (case aP => exact rfl); (case aB => exact zb); (case aF => exact (fun k_ hk => Kd.fresh' (Kd.R_lt (by (with_reducible repeat (first | apply Kd.R_alloc | apply Kd.R_drewN | apply Kd.R_drew)); exact (Kd.R_mono (Kd.R_far (p := ⟨gb49, 7, none⟩) (Kd.R_far (p := ⟨gb49, 6, none⟩) (Kd.R_far (p := ⟨gb49, 5, none⟩) (Kd.R_far (p := ⟨gb49, 4, none⟩) (Kd.R_far (p := ⟨gb49, 3, none⟩) (Kd.R_far (p := ⟨gb49, 2, none⟩) (Kd.R_far (p := ⟨gb49, 1, none⟩) (Kd.R_far (p := ⟨gb49, 0, none⟩) (Kd.R_types HO_6.out BK49.out (by decide)) (fun _ hk => hk.2) (.int .i64 ((rd_T48 l0 x7_1).f0))) (fun _ hk => hk.2) (.int .i64 ((rd_T48 l0 x7_1).f1))) (fun _ hk => hk.2) (.int .i64 ((rd_T48 l0 x7_1).f2))) (fun _ hk => hk.2) (.bool ((rd_T48 l0 x7_1).f3))) (fun _ hk => hk.2) (.int .i64 ((rd_T48 l0 x7_1).f4))) (fun _ hk => hk.2) (.bool ((rd_T48 l0 x7_1).f5))) (fun _ hk => hk.2) (.int .i64 ((rd_T48 l0 x7_1).f6))) (fun _ hk => hk.2) (.int .i64 ((rd_T48 l0 x7_1).f7))) (fun _ h_ => h_.1)))) k_ hk)); (case aO => exact (by (with_reducible repeat (first | apply Kd.R_alloc | apply Kd.R_drewN | apply Kd.R_drew)); exact Kd.R_mono (Kd.R_far (p := ⟨gb49, 7, none⟩) (Kd.R_far (p := ⟨gb49, 6, none⟩) (Kd.R_far (p := ⟨gb49, 5, none⟩) (Kd.R_far (p := ⟨gb49, 4, none⟩) (Kd.R_far (p := ⟨gb49, 3, none⟩) (Kd.R_far (p := ⟨gb49, 2, none⟩) (Kd.R_far (p := ⟨gb49, 1, none⟩) (Kd.R_far (p := ⟨gb49, 0, none⟩) (Kd.R_types HO_5.out BK49.out (by decide)) (fun _ hk => hk.2) (.int .i64 ((rd_T48 l0 x7_1).f0))) (fun _ hk => hk.2) (.int .i64 ((rd_T48 l0 x7_1).f1))) (fun _ hk => hk.2) (.int .i64 ((rd_T48 l0 x7_1).f2))) (fun _ hk => hk.2) (.bool ((rd_T48 l0 x7_1).f3))) (fun _ hk => hk.2) (.int .i64 ((rd_T48 l0 x7_1).f4))) (fun _ hk => hk.2) (.bool ((rd_T48 l0 x7_1).f5))) (fun _ hk => hk.2) (.int .i64 ((rd_T48 l0 x7_1).f6))) (fun _ hk => hk.2) (.int .i64 ((rd_T48 l0 x7_1).f7))) (fun _ hk => hk.1))); (case aS => exact (below_size zb)); (case aL => have := LMc12.out; omega); intro v61 w30 ho hb hg hat; rw [← Ny51.out] at ho; have n0_ := Aside0.mk (Kd.R_after (ok := (fun _ => True)) (by (with_reducible repeat (first | apply Kd.R_alloc | apply Kd.R_drewN | apply Kd.R_drew)); exact Kd.R_mono (Kd.R_far (p := ⟨gb49, 7, none⟩) (Kd.R_far (p := ⟨gb49, 6, none⟩) (Kd.R_far (p := ⟨gb49, 5, none⟩) (Kd.R_far (p := ⟨gb49, 4, none⟩) (Kd.R_far (p := ⟨gb49, 3, none⟩) (Kd.R_far (p := ⟨gb49, 2, none⟩) (Kd.R_far (p := ⟨gb49, 1, none⟩) (Kd.R_far (p := ⟨gb49, 0, none⟩) (Kd.R_types HO_6.out BK49.out (by decide)) (fun _ hk => hk.2) (.int .i64 ((rd_T48 l0 x7_1).f0))) (fun _ hk => hk.2) (.int .i64 ((rd_T48 l0 x7_1).f1))) (fun _ hk => hk.2) (.int .i64 ((rd_T48 l0 x7_1).f2))) (fun _ hk => hk.2) (.bool ((rd_T48 l0 x7_1).f3))) (fun _ hk => hk.2) (.int .i64 ((rd_T48 l0 x7_1).f4))) (fun _ hk => hk.2) (.bool ((rd_T48 l0 x7_1).f5))) (fun _ hk => hk.2) (.int .i64 ((rd_T48 l0 x7_1).f6))) (fun _ hk => hk.2) (.int .i64 ((rd_T48 l0 x7_1).f7))) (fun _ hk => ⟨trivial, hk.1⟩)) hg hat); have n1_ := Aside0.mk (blk_grown (g := gb49) (o := .cells #[.int .i64 ((rd_T48 l0 x7_1).f0), .int .i64 ((rd_T48 l0 x7_1).f1), .int .i64 ((rd_T48 l0 x7_1).f2), .bool ((rd_T48 l0 x7_1).f3), .int .i64 ((rd_T48 l0 x7_1).f4), .bool ((rd_T48 l0 x7_1).f5), .int .i64 ((rd_T48 l0 x7_1).f6), .int .i64 ((rd_T48 l0 x7_1).f7)] 48 (0, 0)) (by (with_reducible repeat (first | refine blk_drewN ?_ _ | refine blk_drew ?_ | refine blk_alloc ?_ _)); refine blk_put (cs := #[.int .i64 ((rd_T48 l0 x7_1).f0), .int .i64 ((rd_T48 l0 x7_1).f1), .int .i64 ((rd_T48 l0 x7_1).f2), .bool ((rd_T48 l0 x7_1).f3), .int .i64 ((rd_T48 l0 x7_1).f4), .bool ((rd_T48 l0 x7_1).f5), .int .i64 ((rd_T48 l0 x7_1).f6), .int .i64 0]) ?_ 7 _ rfl; (with_reducible repeat (first | refine blk_drewN ?_ _ | refine blk_drew ?_ | refine blk_alloc ?_ _)); refine blk_put (cs := #[.int .i64 ((rd_T48 l0 x7_1).f0), .int .i64 ((rd_T48 l0 x7_1).f1), .int .i64 ((rd_T48 l0 x7_1).f2), .bool ((rd_T48 l0 x7_1).f3), .int .i64 ((rd_T48 l0 x7_1).f4), .bool ((rd_T48 l0 x7_1).f5), .int .i64 0, .int .i64 0]) ?_ 6 _ rfl; (with_reducible repeat (first | refine blk_drewN ?_ _ | refine blk_drew ?_ | refine blk_alloc ?_ _)); refine blk_put (cs := #[.int .i64 ((rd_T48 l0 x7_1).f0), .int .i64 ((rd_T48 l0 x7_1).f1), .int .i64 ((rd_T48 l0 x7_1).f2), .bool ((rd_T48 l0 x7_1).f3), .int .i64 ((rd_T48 l0 x7_1).f4), .bool false, .int .i64 0, .int .i64 0]) ?_ 5 _ rfl; (with_reducible repeat (first | refine blk_drewN ?_ _ | refine blk_drew ?_ | refine blk_alloc ?_ _)); refine blk_put (cs := #[.int .i64 ((rd_T48 l0 x7_1).f0), .int .i64 ((rd_T48 l0 x7_1).f1), .int .i64 ((rd_T48 l0 x7_1).f2), .bool ((rd_T48 l0 x7_1).f3), .int .i64 0, .bool false, .int .i64 0, .int .i64 0]) ?_ 4 _ rfl; (with_reducible repeat (first | refine blk_drewN ?_ _ | refine blk_drew ?_ | refine blk_alloc ?_ _)); refine blk_put (cs := #[.int .i64 ((rd_T48 l0 x7_1).f0), .int .i64 ((rd_T48 l0 x7_1).f1), .int .i64 ((rd_T48 l0 x7_1).f2), .bool false, .int .i64 0, .bool false, .int .i64 0, .int .i64 0]) ?_ 3 _ rfl; (with_reducible repeat (first | refine blk_drewN ?_ _ | refine blk_drew ?_ | refine blk_alloc ?_ _)); refine blk_put (cs := #[.int .i64 ((rd_T48 l0 x7_1).f0), .int .i64 ((rd_T48 l0 x7_1).f1), .int .i64 0, .bool false, .int .i64 0, .bool false, .int .i64 0, .int .i64 0]) ?_ 2 _ rfl; (with_reducible repeat (first | refine blk_drewN ?_ _ | refine blk_drew ?_ | refine blk_alloc ?_ _)); refine blk_put (cs := #[.int .i64 ((rd_T48 l0 x7_1).f0), .int .i64 0, .int .i64 0, .bool false, .int .i64 0, .bool false, .int .i64 0, .int .i64 0]) ?_ 1 _ rfl; (with_reducible repeat (first | refine blk_drewN ?_ _ | refine blk_drew ?_ | refine blk_alloc ?_ _)); refine blk_put (cs := #[.int .i64 0, .int .i64 0, .int .i64 0, .bool false, .int .i64 0, .bool false, .int .i64 0, .int .i64 0]) ?_ 0 _ rfl; (with_reducible repeat (first | refine blk_drewN ?_ _ | refine blk_drew ?_ | refine blk_alloc ?_ _)); exact BK49.out) hg (Kd.R_ne HO_5.out BK49.out (by decide))); have n2_ := Aside0.mk (hb); have n3_ := Aside0.mk (ho); clear HO_6; clear BK49; clear HB; clear HO_5; have HO_6 := n0_; have BK49 := n1_; have HB := n2_; have HO52 := n3_; clear n0_ n1_ n2_ n3_; clear ho hb hg hat; obtain ⟨hcz31_0, hcz31_1, hcz31_2, hcz31_3, hcz31_4, hcz31_5, hcz31_6, hcz31_7, hfz31_0, hfz31_1, hfz31_2, hfz31_3, hfz31_4, hfz31_5, hfz31_6, hfz31_7⟩ := Lv.blks8 BK49.out))
         go_roundg k1
         case measure => have := HK1.out; omega
         case rel => exact ⟨(y51), (x6_1), (wrap64 (x7_1 - 1)), zs, H', ⟨by have := HK1.out; omega⟩, ⟨by (with_reducible repeat (first | apply Kd.R_alloc | apply Kd.R_drewN | apply Kd.R_drew)); exact HO52.out⟩, ⟨by (with_reducible repeat (first | apply Kd.R_alloc | apply Kd.R_drewN | apply Kd.R_drew)); exact Kd.R_mono HO_6.out (fun _ hk => hk.2)⟩, ⟨zb⟩⟩
        rw [if_neg c12] at H
        exact absurd H (by simp)
       rw [if_neg c11] at H
       have c11b0 : (((rd_T48 l0 x7_1).f0) == 5) = false := beq_eq_false_iff_ne.mpr c11
       have c11b1 : (((rd_T48 l0 x7_1).f0) != 5) = true := bne_iff_ne.mpr c11
       by_cases c32 : ((rd_T48 l0 x7_1).f0) = 2
       ·rw [if_pos c32] at H
        have c32b0 : (((rd_T48 l0 x7_1).f0) == 2) = true := beq_iff_eq.mpr c32
        have c32b1 : (((rd_T48 l0 x7_1).f0) != 2) = false := bne_eq_false_iff_eq.mpr c32
        clear c32
        replace H := Option.bind_eq_some_iff.mp H
        obtain ⟨t62, A63, H⟩ := H
        replace H : (if t62 = true then (spec_l3Back.l0 k1 l0 a1 x5_1 x6_1 (wrap64 (x7_1 - 1))) else (if x6_1.length < 17592186044416 then (spec_l3Back.l0 k1 l0 a1 x5_1 (x6_1 ++ [wrap64 (x7_1 + 1)]) (wrap64 (x7_1 - 1))) else (none))) = some r := H
        have A33 := Aside0.mk A63
        clear A63
        by_cases c34 : t62 = true
        ·subst c34
         have H1 : (spec_l3Back.l0 k1 l0 a1 x5_1 x6_1 (wrap64 (x7_1 - 1))) = some r := by rw [if_pos rfl] at H; exact H
         clear H
         have H := H1
         clear H1
         have H' := Aside0.mk H
         clear H
         have p385 : 0 ≤ (x7_1 : Int) := of_decide_eq_true za
         have q50 : x7_1 < (l0.length : Int) := of_decide_eq_true za
         obtain ⟨ad50, e385, hx50_0, hx50_1, hx50_2, hx50_3, hx50_4, hx50_5, hx50_6, hx50_7⟩ := at_T48 (Kd.C_below HR0.out HB.out) x7_1 p385 q50
         cases e385
         replace p385 := eq_true p385
         replace q50 := eq_true q50
         go_wp2_with (first | ((with_reducible refine gate_dst (N := 8) rfl ?_); refine box_event ?hg (N := 8) ?hd (cs := #[.int .i64 0, .int .i64 0, .int .i64 0, .bool false, .int .i64 0, .bool false, .int .i64 0, .int .i64 0]) (t := 48) ?hr ?_; (case hd => rfl); (case hg => rfl); (case hr => first | (go_simp; done) | (go_simp; rfl)); intro gb49 hg w35 hbox hb; have n0_ := Aside0.mk (Kd.R_below (by (with_reducible repeat (first | apply Kd.R_alloc | apply Kd.R_drewN | apply Kd.R_drew)); exact HO_5.out) hb); have n1_ := Aside0.mk (Kd.R_below (by (with_reducible repeat (first | apply Kd.R_alloc | apply Kd.R_drewN | apply Kd.R_drew)); exact HO_6.out) hb); have n2_ := Aside0.mk (below_step zb hb); have n3_ := Aside0.mk (hbox); have n4_ := Aside0.mk ((by rw [hg]; exact (below_size zb) : w.heap.size ≤ gb49)); have n5_ := n4_; clear HO_5; clear HO_6; clear HB; have HO_5 := n0_; have HO_6 := n1_; have HB := n2_; have BK49 := n3_; have GW49 := n4_; have GE49 := n5_; clear n0_ n1_ n2_ n3_ n4_ n5_; clear hb hbox hg; obtain ⟨hcz36_0, hcz36_1, hcz36_2, hcz36_3, hcz36_4, hcz36_5, hcz36_6, hcz36_7, hfz36_0, hfz36_1, hfz36_2, hfz36_3, hfz36_4, hfz36_5, hfz36_6, hfz36_7⟩ := Lv.blks8 BK49.out; obtain ⟨Ao37, co37, eo37⟩ := Kd.R_slice HO_5.out; subst eo37) | (go_at_call 87; (with_reducible refine (spec_l1Has.calls k1 _ _ x5_1 (wrap64 (x7_1 + 1)) true _ ?side1 ?side2 A33.out).mono ?_); (case side1 => refine (Kd.R_reads' (e := 2) (base := w.heap.size) (ok := fun k_ => some k_ ≠ (u6 : Value).ownBlock) (n := x5_1.length) (c := co37) ?_).2.2; exact (by (with_reducible repeat (first | apply Kd.R_alloc | apply Kd.R_drewN | apply Kd.R_drew)); exact (Kd.R_mono (Kd.R_far (p := ⟨gb49, 7, none⟩) (Kd.R_far (p := ⟨gb49, 6, none⟩) (Kd.R_far (p := ⟨gb49, 5, none⟩) (Kd.R_far (p := ⟨gb49, 4, none⟩) (Kd.R_far (p := ⟨gb49, 3, none⟩) (Kd.R_far (p := ⟨gb49, 2, none⟩) (Kd.R_far (p := ⟨gb49, 1, none⟩) (Kd.R_far (p := ⟨gb49, 0, none⟩) (Kd.R_types HO_5.out BK49.out (by decide)) (fun _ hk => hk.2) (.int .i64 ((rd_T48 l0 x7_1).f0))) (fun _ hk => hk.2) (.int .i64 ((rd_T48 l0 x7_1).f1))) (fun _ hk => hk.2) (.int .i64 ((rd_T48 l0 x7_1).f2))) (fun _ hk => hk.2) (.bool ((rd_T48 l0 x7_1).f3))) (fun _ hk => hk.2) (.int .i64 ((rd_T48 l0 x7_1).f4))) (fun _ hk => hk.2) (.bool ((rd_T48 l0 x7_1).f5))) (fun _ hk => hk.2) (.int .i64 ((rd_T48 l0 x7_1).f6))) (fun _ hk => hk.2) (.int .i64 ((rd_T48 l0 x7_1).f7))) (fun _ h_ => h_.1)))); (case side2 => exact (Kd.R_reads' HO_5.out).2.1); rintro e w' ⟨rfl, ⟨nd, rfl⟩⟩))
         go_roundg k1
         case measure => have := HK1.out; omega
         case rel => exact ⟨(x5_1), (x6_1), (wrap64 (x7_1 - 1)), zs, H', ⟨by have := HK1.out; omega⟩, ⟨by (with_reducible repeat (first | apply Kd.R_alloc | apply Kd.R_drewN | apply Kd.R_drew)); exact Kd.R_mono (Kd.R_far (p := ⟨gb49, 7, none⟩) (Kd.R_far (p := ⟨gb49, 6, none⟩) (Kd.R_far (p := ⟨gb49, 5, none⟩) (Kd.R_far (p := ⟨gb49, 4, none⟩) (Kd.R_far (p := ⟨gb49, 3, none⟩) (Kd.R_far (p := ⟨gb49, 2, none⟩) (Kd.R_far (p := ⟨gb49, 1, none⟩) (Kd.R_far (p := ⟨gb49, 0, none⟩) (Kd.R_types HO_5.out BK49.out (by decide)) (fun _ hk => hk.2) (.int .i64 ((rd_T48 l0 x7_1).f0))) (fun _ hk => hk.2) (.int .i64 ((rd_T48 l0 x7_1).f1))) (fun _ hk => hk.2) (.int .i64 ((rd_T48 l0 x7_1).f2))) (fun _ hk => hk.2) (.bool ((rd_T48 l0 x7_1).f3))) (fun _ hk => hk.2) (.int .i64 ((rd_T48 l0 x7_1).f4))) (fun _ hk => hk.2) (.bool ((rd_T48 l0 x7_1).f5))) (fun _ hk => hk.2) (.int .i64 ((rd_T48 l0 x7_1).f6))) (fun _ hk => hk.2) (.int .i64 ((rd_T48 l0 x7_1).f7))) (fun _ hk => hk.1)⟩, ⟨by (with_reducible repeat (first | apply Kd.R_alloc | apply Kd.R_drewN | apply Kd.R_drew)); exact Kd.R_mono (Kd.R_far (p := ⟨gb49, 7, none⟩) (Kd.R_far (p := ⟨gb49, 6, none⟩) (Kd.R_far (p := ⟨gb49, 5, none⟩) (Kd.R_far (p := ⟨gb49, 4, none⟩) (Kd.R_far (p := ⟨gb49, 3, none⟩) (Kd.R_far (p := ⟨gb49, 2, none⟩) (Kd.R_far (p := ⟨gb49, 1, none⟩) (Kd.R_far (p := ⟨gb49, 0, none⟩) (Kd.R_types HO_6.out BK49.out (by decide)) (fun _ hk => hk.2) (.int .i64 ((rd_T48 l0 x7_1).f0))) (fun _ hk => hk.2) (.int .i64 ((rd_T48 l0 x7_1).f1))) (fun _ hk => hk.2) (.int .i64 ((rd_T48 l0 x7_1).f2))) (fun _ hk => hk.2) (.bool ((rd_T48 l0 x7_1).f3))) (fun _ hk => hk.2) (.int .i64 ((rd_T48 l0 x7_1).f4))) (fun _ hk => hk.2) (.bool ((rd_T48 l0 x7_1).f5))) (fun _ hk => hk.2) (.int .i64 ((rd_T48 l0 x7_1).f6))) (fun _ hk => hk.2) (.int .i64 ((rd_T48 l0 x7_1).f7))) (fun _ hk => hk.1)⟩, ⟨zb⟩⟩
        replace c34 := Bool.eq_false_iff.mpr c34
        subst c34
        have H1 : (if x6_1.length < 17592186044416 then (spec_l3Back.l0 k1 l0 a1 x5_1 (x6_1 ++ [wrap64 (x7_1 + 1)]) (wrap64 (x7_1 - 1))) else (none)) = some r := by rw [if_neg (show ¬ (false = true) by decide)] at H; exact H
        clear H
        have H := H1
        clear H1
        by_cases c38 : x6_1.length < 17592186044416
        ·rw [if_pos c38] at H
         have LMc38 := Aside0.mk c38
         clear c38
         obtain ⟨y57, hy57⟩ : ∃ y_ : List Int, y_ = (x6_1 ++ [wrap64 (x7_1 + 1)]) := ⟨_, rfl⟩
         replace H : (spec_l3Back.l0 k1 l0 a1 x5_1 y57 (wrap64 (x7_1 - 1))) = some r := by first | (rw [hy57]; with_reducible exact H) | (have H2_ := (Option.bind_some _ _).symm.trans H; rw [hy57]; with_reducible exact H2_) | (have H2_ := (Option.bind_some _ _).symm.trans H; with_reducible exact H2_) | with_reducible exact H | (rw [hy57]; exact H) | exact H
         have Ny57 := Aside0.mk hy57
         clear hy57
         have H' := Aside0.mk H
         clear H
         have p385 : 0 ≤ (x7_1 : Int) := of_decide_eq_true za
         have q50 : x7_1 < (l0.length : Int) := of_decide_eq_true za
         obtain ⟨ad50, e385, hx50_0, hx50_1, hx50_2, hx50_3, hx50_4, hx50_5, hx50_6, hx50_7⟩ := at_T48 (Kd.C_below HR0.out HB.out) x7_1 p385 q50
         cases e385
         replace p385 := eq_true p385
         replace q50 := eq_true q50
         go_wp2_with (first | ((with_reducible refine gate_dst (N := 8) rfl ?_); refine box_event ?hg (N := 8) ?hd (cs := #[.int .i64 0, .int .i64 0, .int .i64 0, .bool false, .int .i64 0, .bool false, .int .i64 0, .int .i64 0]) (t := 48) ?hr ?_; (case hd => rfl); (case hg => rfl); (case hr => first | (go_simp; done) | (go_simp; rfl)); intro gb49 hg w39 hbox hb; have n0_ := Aside0.mk (Kd.R_below (by (with_reducible repeat (first | apply Kd.R_alloc | apply Kd.R_drewN | apply Kd.R_drew)); exact HO_5.out) hb); have n1_ := Aside0.mk (Kd.R_below (by (with_reducible repeat (first | apply Kd.R_alloc | apply Kd.R_drewN | apply Kd.R_drew)); exact HO_6.out) hb); have n2_ := Aside0.mk (below_step zb hb); have n3_ := Aside0.mk (hbox); have n4_ := Aside0.mk ((by rw [hg]; exact (below_size zb) : w.heap.size ≤ gb49)); have n5_ := n4_; clear HO_5; clear HO_6; clear HB; have HO_5 := n0_; have HO_6 := n1_; have HB := n2_; have BK49 := n3_; have GW49 := n4_; have GE49 := n5_; clear n0_ n1_ n2_ n3_ n4_ n5_; clear hb hbox hg; obtain ⟨hcz40_0, hcz40_1, hcz40_2, hcz40_3, hcz40_4, hcz40_5, hcz40_6, hcz40_7, hfz40_0, hfz40_1, hfz40_2, hfz40_3, hfz40_4, hfz40_5, hfz40_6, hfz40_7⟩ := Lv.blks8 BK49.out; obtain ⟨Ao41, co41, eo41⟩ := Kd.R_slice HO_5.out; subst eo41) | (go_at_call 87; (with_reducible refine (spec_l1Has.calls k1 _ _ x5_1 (wrap64 (x7_1 + 1)) false _ ?side1 ?side2 A33.out).mono ?_); (case side1 => refine (Kd.R_reads' (e := 2) (base := w.heap.size) (ok := fun k_ => some k_ ≠ (u6 : Value).ownBlock) (n := x5_1.length) (c := co41) ?_).2.2; exact (by (with_reducible repeat (first | apply Kd.R_alloc | apply Kd.R_drewN | apply Kd.R_drew)); exact (Kd.R_mono (Kd.R_far (p := ⟨gb49, 7, none⟩) (Kd.R_far (p := ⟨gb49, 6, none⟩) (Kd.R_far (p := ⟨gb49, 5, none⟩) (Kd.R_far (p := ⟨gb49, 4, none⟩) (Kd.R_far (p := ⟨gb49, 3, none⟩) (Kd.R_far (p := ⟨gb49, 2, none⟩) (Kd.R_far (p := ⟨gb49, 1, none⟩) (Kd.R_far (p := ⟨gb49, 0, none⟩) (Kd.R_types HO_5.out BK49.out (by decide)) (fun _ hk => hk.2) (.int .i64 ((rd_T48 l0 x7_1).f0))) (fun _ hk => hk.2) (.int .i64 ((rd_T48 l0 x7_1).f1))) (fun _ hk => hk.2) (.int .i64 ((rd_T48 l0 x7_1).f2))) (fun _ hk => hk.2) (.bool ((rd_T48 l0 x7_1).f3))) (fun _ hk => hk.2) (.int .i64 ((rd_T48 l0 x7_1).f4))) (fun _ hk => hk.2) (.bool ((rd_T48 l0 x7_1).f5))) (fun _ hk => hk.2) (.int .i64 ((rd_T48 l0 x7_1).f6))) (fun _ hk => hk.2) (.int .i64 ((rd_T48 l0 x7_1).f7))) (fun _ h_ => h_.1)))); (case side2 => exact (Kd.R_reads' HO_5.out).2.1); rintro e w' ⟨rfl, ⟨nd, rfl⟩⟩) | ((with_reducible refine gate_builtin (b := .append) (xs := #[.tmp 44, .tmp 47]) rfl ?_); at_builtin; refine Kd.R_append (Kd.int .i64) (w0 := w) w.heap.size rfl (.tmp 44) (.tmp 47) 33 2 (.int .i64 0) 8 rfl Try.underlying33 info2 rfl (by decide) (by omega) u6 x6_1 (wrap64 (x7_1 + 1)) [.int .i64 (wrap64 (x7_1 + 1))] (fun k_ => some k_ ≠ (.slice Ao41 x5_1.length co41 : Value).ownBlock) (fun _ => False) rfl (by first | exact (congrArg (fun n_ => Value.slice (some ⟨n_, 0, none⟩) 1 1) (by simp [World.setCell])) | (go_simp; done) | (go_simp; rfl)) ?aP (fun _ hk => hk.elim) ?aF ?aO ?aB ?aS ?aL ?_; (case aP => exact rfl); (case aB => exact zb); (case aF => exact (fun k_ hk => Kd.fresh' (Kd.R_lt (by (with_reducible repeat (first | apply Kd.R_alloc | apply Kd.R_drewN | apply Kd.R_drew)); exact (Kd.R_mono (Kd.R_far (p := ⟨gb49, 7, none⟩) (Kd.R_far (p := ⟨gb49, 6, none⟩) (Kd.R_far (p := ⟨gb49, 5, none⟩) (Kd.R_far (p := ⟨gb49, 4, none⟩) (Kd.R_far (p := ⟨gb49, 3, none⟩) (Kd.R_far (p := ⟨gb49, 2, none⟩) (Kd.R_far (p := ⟨gb49, 1, none⟩) (Kd.R_far (p := ⟨gb49, 0, none⟩) (Kd.R_types HO_5.out BK49.out (by decide)) (fun _ hk => hk.2) (.int .i64 ((rd_T48 l0 x7_1).f0))) (fun _ hk => hk.2) (.int .i64 ((rd_T48 l0 x7_1).f1))) (fun _ hk => hk.2) (.int .i64 ((rd_T48 l0 x7_1).f2))) (fun _ hk => hk.2) (.bool ((rd_T48 l0 x7_1).f3))) (fun _ hk => hk.2) (.int .i64 ((rd_T48 l0 x7_1).f4))) (fun _ hk => hk.2) (.bool ((rd_T48 l0 x7_1).f5))) (fun _ hk => hk.2) (.int .i64 ((rd_T48 l0 x7_1).f6))) (fun _ hk => hk.2) (.int .i64 ((rd_T48 l0 x7_1).f7))) (fun _ h_ => h_.1)))) k_ hk)); (case aO => exact (by (with_reducible repeat (first | apply Kd.R_alloc | apply Kd.R_drewN | apply Kd.R_drew)); exact Kd.R_mono (Kd.R_far (p := ⟨gb49, 7, none⟩) (Kd.R_far (p := ⟨gb49, 6, none⟩) (Kd.R_far (p := ⟨gb49, 5, none⟩) (Kd.R_far (p := ⟨gb49, 4, none⟩) (Kd.R_far (p := ⟨gb49, 3, none⟩) (Kd.R_far (p := ⟨gb49, 2, none⟩) (Kd.R_far (p := ⟨gb49, 1, none⟩) (Kd.R_far (p := ⟨gb49, 0, none⟩) (Kd.R_types HO_6.out BK49.out (by decide)) (fun _ hk => hk.2) (.int .i64 ((rd_T48 l0 x7_1).f0))) (fun _ hk => hk.2) (.int .i64 ((rd_T48 l0 x7_1).f1))) (fun _ hk => hk.2) (.int .i64 ((rd_T48 l0 x7_1).f2))) (fun _ hk => hk.2) (.bool ((rd_T48 l0 x7_1).f3))) (fun _ hk => hk.2) (.int .i64 ((rd_T48 l0 x7_1).f4))) (fun _ hk => hk.2) (.bool ((rd_T48 l0 x7_1).f5))) (fun _ hk => hk.2) (.int .i64 ((rd_T48 l0 x7_1).f6))) (fun _ hk => hk.2) (.int .i64 ((rd_T48 l0 x7_1).f7))) (fun _ hk => hk.1))); (case aS => exact (below_size zb)); (case aL => have := LMc38.out; omega); intro v71 w42 ho hb hg hat; rw [← Ny57.out] at ho; have n0_ := Aside0.mk (Kd.R_after (ok := (fun _ => True)) (by (with_reducible repeat (first | apply Kd.R_alloc | apply Kd.R_drewN | apply Kd.R_drew)); exact Kd.R_mono (Kd.R_far (p := ⟨gb49, 7, none⟩) (Kd.R_far (p := ⟨gb49, 6, none⟩) (Kd.R_far (p := ⟨gb49, 5, none⟩) (Kd.R_far (p := ⟨gb49, 4, none⟩) (Kd.R_far (p := ⟨gb49, 3, none⟩) (Kd.R_far (p := ⟨gb49, 2, none⟩) (Kd.R_far (p := ⟨gb49, 1, none⟩) (Kd.R_far (p := ⟨gb49, 0, none⟩) (Kd.R_types HO_5.out BK49.out (by decide)) (fun _ hk => hk.2) (.int .i64 ((rd_T48 l0 x7_1).f0))) (fun _ hk => hk.2) (.int .i64 ((rd_T48 l0 x7_1).f1))) (fun _ hk => hk.2) (.int .i64 ((rd_T48 l0 x7_1).f2))) (fun _ hk => hk.2) (.bool ((rd_T48 l0 x7_1).f3))) (fun _ hk => hk.2) (.int .i64 ((rd_T48 l0 x7_1).f4))) (fun _ hk => hk.2) (.bool ((rd_T48 l0 x7_1).f5))) (fun _ hk => hk.2) (.int .i64 ((rd_T48 l0 x7_1).f6))) (fun _ hk => hk.2) (.int .i64 ((rd_T48 l0 x7_1).f7))) (fun _ hk => ⟨trivial, hk.1⟩)) hg hat); have n1_ := Aside0.mk (blk_grown (g := gb49) (o := .cells #[.int .i64 ((rd_T48 l0 x7_1).f0), .int .i64 ((rd_T48 l0 x7_1).f1), .int .i64 ((rd_T48 l0 x7_1).f2), .bool ((rd_T48 l0 x7_1).f3), .int .i64 ((rd_T48 l0 x7_1).f4), .bool ((rd_T48 l0 x7_1).f5), .int .i64 ((rd_T48 l0 x7_1).f6), .int .i64 ((rd_T48 l0 x7_1).f7)] 48 (0, 0)) (by (with_reducible repeat (first | refine blk_drewN ?_ _ | refine blk_drew ?_ | refine blk_alloc ?_ _)); refine blk_put (cs := #[.int .i64 ((rd_T48 l0 x7_1).f0), .int .i64 ((rd_T48 l0 x7_1).f1), .int .i64 ((rd_T48 l0 x7_1).f2), .bool ((rd_T48 l0 x7_1).f3), .int .i64 ((rd_T48 l0 x7_1).f4), .bool ((rd_T48 l0 x7_1).f5), .int .i64 ((rd_T48 l0 x7_1).f6), .int .i64 0]) ?_ 7 _ rfl; (with_reducible repeat (first | refine blk_drewN ?_ _ | refine blk_drew ?_ | refine blk_alloc ?_ _)); refine blk_put (cs := #[.int .i64 ((rd_T48 l0 x7_1).f0), .int .i64 ((rd_T48 l0 x7_1).f1), .int .i64 ((rd_T48 l0 x7_1).f2), .bool ((rd_T48 l0 x7_1).f3), .int .i64 ((rd_T48 l0 x7_1).f4), .bool ((rd_T48 l0 x7_1).f5), .int .i64 0, .int .i64 0]) ?_ 6 _ rfl; (with_reducible repeat (first | refine blk_drewN ?_ _ | refine blk_drew ?_ | refine blk_alloc ?_ _)); refine blk_put (cs := #[.int .i64 ((rd_T48 l0 x7_1).f0), .int .i64 ((rd_T48 l0 x7_1).f1), .int .i64 ((rd_T48 l0 x7_1).f2), .bool ((rd_T48 l0 x7_1).f3), .int .i64 ((rd_T48 l0 x7_1).f4), .bool false, .int .i64 0, .int .i64 0]) ?_ 5 _ rfl; (with_reducible repeat (first | refine blk_drewN ?_ _ | refine blk_drew ?_ | refine blk_alloc ?_ _)); refine blk_put (cs := #[.int .i64 ((rd_T48 l0 x7_1).f0), .int .i64 ((rd_T48 l0 x7_1).f1), .int .i64 ((rd_T48 l0 x7_1).f2), .bool ((rd_T48 l0 x7_1).f3), .int .i64 0, .bool false, .int .i64 0, .int .i64 0]) ?_ 4 _ rfl; (with_reducible repeat (first | refine blk_drewN ?_ _ | refine blk_drew ?_ | refine blk_alloc ?_ _)); refine blk_put (cs := #[.int .i64 ((rd_T48 l0 x7_1).f0), .int .i64 ((rd_T48 l0 x7_1).f1), .int .i64 ((rd_T48 l0 x7_1).f2), .bool false, .int .i64 0, .bool false, .int .i64 0, .int .i64 0]) ?_ 3 _ rfl; (with_reducible repeat (first | refine blk_drewN ?_ _ | refine blk_drew ?_ | refine blk_alloc ?_ _)); refine blk_put (cs := #[.int .i64 ((rd_T48 l0 x7_1).f0), .int .i64 ((rd_T48 l0 x7_1).f1), .int .i64 0, .bool false, .int .i64 0, .bool false, .int .i64 0, .int .i64 0]) ?_ 2 _ rfl; (with_reducible repeat (first | refine blk_drewN ?_ _ | refine blk_drew ?_ | refine blk_alloc ?_ _)); refine blk_put (cs := #[.int .i64 ((rd_T48 l0 x7_1).f0), .int .i64 0, .int .i64 0, .bool false, .int .i64 0, .bool false, .int .i64 0, .int .i64 0]) ?_ 1 _ rfl; (with_reducible repeat (first | refine blk_drewN ?_ _ | refine blk_drew ?_ | refine blk_alloc ?_ _)); refine blk_put (cs := #[.int .i64 0, .int .i64 0, .int .i64 0, .bool false, .int .i64 0, .bool false, .int .i64 0, .int .i64 0]) ?_ 0 _ rfl; (with_reducible repeat (first | refine blk_drewN ?_ _ | refine blk_drew ?_ | refine blk_alloc ?_ _)); exact BK49.out) hg (Kd.R_ne HO_6.out BK49.out (by decide))); have n2_ := Aside0.mk (hb); have n3_ := Aside0.mk (ho); clear HO_5; clear BK49; clear HB; clear HO_6; have HO_5 := n0_; have BK49 := n1_; have HB := n2_; have HO67 := n3_; clear n0_ n1_ n2_ n3_; clear ho hb hg hat))
         go_roundg k1
         case measure => have := HK1.out; omega
         case rel => exact ⟨(x5_1), (y57), (wrap64 (x7_1 - 1)), zs, H', ⟨by have := HK1.out; omega⟩, ⟨by (with_reducible repeat (first | apply Kd.R_alloc | apply Kd.R_drewN | apply Kd.R_drew)); exact Kd.R_mono HO_5.out (fun _ hk => hk.2)⟩, ⟨by (with_reducible repeat (first | apply Kd.R_alloc | apply Kd.R_drewN | apply Kd.R_drew)); exact HO67.out⟩, ⟨zb⟩⟩
        rw [if_neg c38] at H
        exact absurd H (by simp)
       rw [if_neg c32] at H
       have c32b0 : (((rd_T48 l0 x7_1).f0) == 2) = false := beq_eq_false_iff_ne.mpr c32
       have c32b1 : (((rd_T48 l0 x7_1).f0) != 2) = true := bne_iff_ne.mpr c32
       have H' := Aside0.mk H
       clear H
       have p385 : 0 ≤ (x7_1 : Int) := of_decide_eq_true za
       have q50 : x7_1 < (l0.length : Int) := of_decide_eq_true za
       obtain ⟨ad50, e385, hx50_0, hx50_1, hx50_2, hx50_3, hx50_4, hx50_5, hx50_6, hx50_7⟩ := at_T48 (Kd.C_below HR0.out HB.out) x7_1 p385 q50
       cases e385
       replace p385 := eq_true p385
       replace q50 := eq_true q50
       go_wp2_with (first | ((with_reducible refine gate_dst (N := 8) rfl ?_); refine box_event ?hg (N := 8) ?hd (cs := #[.int .i64 0, .int .i64 0, .int .i64 0, .bool false, .int .i64 0, .bool false, .int .i64 0, .int .i64 0]) (t := 48) ?hr ?_; (case hd => rfl); (case hg => rfl); (case hr => first | (go_simp; done) | (go_simp; rfl)); intro gb49 hg w43 hbox hb; have n0_ := Aside0.mk (Kd.R_below (by (with_reducible repeat (first | apply Kd.R_alloc | apply Kd.R_drewN | apply Kd.R_drew)); exact HO_5.out) hb); have n1_ := Aside0.mk (Kd.R_below (by (with_reducible repeat (first | apply Kd.R_alloc | apply Kd.R_drewN | apply Kd.R_drew)); exact HO_6.out) hb); have n2_ := Aside0.mk (below_step zb hb); have n3_ := Aside0.mk (hbox); have n4_ := Aside0.mk ((by rw [hg]; exact (below_size zb) : w.heap.size ≤ gb49)); have n5_ := n4_; clear HO_5; clear HO_6; clear HB; have HO_5 := n0_; have HO_6 := n1_; have HB := n2_; have BK49 := n3_; have GW49 := n4_; have GE49 := n5_; clear n0_ n1_ n2_ n3_ n4_ n5_; clear hb hbox hg; obtain ⟨hcz44_0, hcz44_1, hcz44_2, hcz44_3, hcz44_4, hcz44_5, hcz44_6, hcz44_7, hfz44_0, hfz44_1, hfz44_2, hfz44_3, hfz44_4, hfz44_5, hfz44_6, hfz44_7⟩ := Lv.blks8 BK49.out))
       go_roundg k1
       case measure => have := HK1.out; omega
       case rel => exact ⟨(x5_1), (x6_1), (wrap64 (x7_1 - 1)), zs, H', ⟨by have := HK1.out; omega⟩, ⟨by (with_reducible repeat (first | apply Kd.R_alloc | apply Kd.R_drewN | apply Kd.R_drew)); exact Kd.R_mono (Kd.R_far (p := ⟨gb49, 7, none⟩) (Kd.R_far (p := ⟨gb49, 6, none⟩) (Kd.R_far (p := ⟨gb49, 5, none⟩) (Kd.R_far (p := ⟨gb49, 4, none⟩) (Kd.R_far (p := ⟨gb49, 3, none⟩) (Kd.R_far (p := ⟨gb49, 2, none⟩) (Kd.R_far (p := ⟨gb49, 1, none⟩) (Kd.R_far (p := ⟨gb49, 0, none⟩) (Kd.R_types HO_5.out BK49.out (by decide)) (fun _ hk => hk.2) (.int .i64 ((rd_T48 l0 x7_1).f0))) (fun _ hk => hk.2) (.int .i64 ((rd_T48 l0 x7_1).f1))) (fun _ hk => hk.2) (.int .i64 ((rd_T48 l0 x7_1).f2))) (fun _ hk => hk.2) (.bool ((rd_T48 l0 x7_1).f3))) (fun _ hk => hk.2) (.int .i64 ((rd_T48 l0 x7_1).f4))) (fun _ hk => hk.2) (.bool ((rd_T48 l0 x7_1).f5))) (fun _ hk => hk.2) (.int .i64 ((rd_T48 l0 x7_1).f6))) (fun _ hk => hk.2) (.int .i64 ((rd_T48 l0 x7_1).f7))) (fun _ hk => hk.1)⟩, ⟨by (with_reducible repeat (first | apply Kd.R_alloc | apply Kd.R_drewN | apply Kd.R_drew)); exact Kd.R_mono (Kd.R_far (p := ⟨gb49, 7, none⟩) (Kd.R_far (p := ⟨gb49, 6, none⟩) (Kd.R_far (p := ⟨gb49, 5, none⟩) (Kd.R_far (p := ⟨gb49, 4, none⟩) (Kd.R_far (p := ⟨gb49, 3, none⟩) (Kd.R_far (p := ⟨gb49, 2, none⟩) (Kd.R_far (p := ⟨gb49, 1, none⟩) (Kd.R_far (p := ⟨gb49, 0, none⟩) (Kd.R_types HO_6.out BK49.out (by decide)) (fun _ hk => hk.2) (.int .i64 ((rd_T48 l0 x7_1).f0))) (fun _ hk => hk.2) (.int .i64 ((rd_T48 l0 x7_1).f1))) (fun _ hk => hk.2) (.int .i64 ((rd_T48 l0 x7_1).f2))) (fun _ hk => hk.2) (.bool ((rd_T48 l0 x7_1).f3))) (fun _ hk => hk.2) (.int .i64 ((rd_T48 l0 x7_1).f4))) (fun _ hk => hk.2) (.bool ((rd_T48 l0 x7_1).f5))) (fun _ hk => hk.2) (.int .i64 ((rd_T48 l0 x7_1).f6))) (fun _ hk => hk.2) (.int .i64 ((rd_T48 l0 x7_1).f7))) (fun _ hk => hk.1)⟩, ⟨zb⟩⟩
      rw [if_neg c10] at H
      have c10b0 : (((rd_T48 l0 x7_1).f1) == a1) = false := beq_eq_false_iff_ne.mpr c10
      have c10b1 : (((rd_T48 l0 x7_1).f1) != a1) = true := bne_iff_ne.mpr c10
      have H' := Aside0.mk H
      clear H
      have p385 : 0 ≤ (x7_1 : Int) := of_decide_eq_true za
      have q50 : x7_1 < (l0.length : Int) := of_decide_eq_true za
      obtain ⟨ad50, e385, hx50_0, hx50_1, hx50_2, hx50_3, hx50_4, hx50_5, hx50_6, hx50_7⟩ := at_T48 (Kd.C_below HR0.out HB.out) x7_1 p385 q50
      cases e385
      replace p385 := eq_true p385
      replace q50 := eq_true q50
      go_wp2_with (first | ((with_reducible refine gate_dst (N := 8) rfl ?_); refine box_event ?hg (N := 8) ?hd (cs := #[.int .i64 0, .int .i64 0, .int .i64 0, .bool false, .int .i64 0, .bool false, .int .i64 0, .int .i64 0]) (t := 48) ?hr ?_; (case hd => rfl); (case hg => rfl); (case hr => first | (go_simp; done) | (go_simp; rfl)); intro gb49 hg w45 hbox hb; have n0_ := Aside0.mk (Kd.R_below (by (with_reducible repeat (first | apply Kd.R_alloc | apply Kd.R_drewN | apply Kd.R_drew)); exact HO_5.out) hb); have n1_ := Aside0.mk (Kd.R_below (by (with_reducible repeat (first | apply Kd.R_alloc | apply Kd.R_drewN | apply Kd.R_drew)); exact HO_6.out) hb); have n2_ := Aside0.mk (below_step zb hb); have n3_ := Aside0.mk (hbox); have n4_ := Aside0.mk ((by rw [hg]; exact (below_size zb) : w.heap.size ≤ gb49)); have n5_ := n4_; clear HO_5; clear HO_6; clear HB; have HO_5 := n0_; have HO_6 := n1_; have HB := n2_; have BK49 := n3_; have GW49 := n4_; have GE49 := n5_; clear n0_ n1_ n2_ n3_ n4_ n5_; clear hb hbox hg; obtain ⟨hcz46_0, hcz46_1, hcz46_2, hcz46_3, hcz46_4, hcz46_5, hcz46_6, hcz46_7, hfz46_0, hfz46_1, hfz46_2, hfz46_3, hfz46_4, hfz46_5, hfz46_6, hfz46_7⟩ := Lv.blks8 BK49.out))
      go_roundg k1
      case measure => have := HK1.out; omega
      case rel => exact ⟨(x5_1), (x6_1), (wrap64 (x7_1 - 1)), zs, H', ⟨by have := HK1.out; omega⟩, ⟨by (with_reducible repeat (first | apply Kd.R_alloc | apply Kd.R_drewN | apply Kd.R_drew)); exact Kd.R_mono (Kd.R_far (p := ⟨gb49, 7, none⟩) (Kd.R_far (p := ⟨gb49, 6, none⟩) (Kd.R_far (p := ⟨gb49, 5, none⟩) (Kd.R_far (p := ⟨gb49, 4, none⟩) (Kd.R_far (p := ⟨gb49, 3, none⟩) (Kd.R_far (p := ⟨gb49, 2, none⟩) (Kd.R_far (p := ⟨gb49, 1, none⟩) (Kd.R_far (p := ⟨gb49, 0, none⟩) (Kd.R_types HO_5.out BK49.out (by decide)) (fun _ hk => hk.2) (.int .i64 ((rd_T48 l0 x7_1).f0))) (fun _ hk => hk.2) (.int .i64 ((rd_T48 l0 x7_1).f1))) (fun _ hk => hk.2) (.int .i64 ((rd_T48 l0 x7_1).f2))) (fun _ hk => hk.2) (.bool ((rd_T48 l0 x7_1).f3))) (fun _ hk => hk.2) (.int .i64 ((rd_T48 l0 x7_1).f4))) (fun _ hk => hk.2) (.bool ((rd_T48 l0 x7_1).f5))) (fun _ hk => hk.2) (.int .i64 ((rd_T48 l0 x7_1).f6))) (fun _ hk => hk.2) (.int .i64 ((rd_T48 l0 x7_1).f7))) (fun _ hk => hk.1)⟩, ⟨by (with_reducible repeat (first | apply Kd.R_alloc | apply Kd.R_drewN | apply Kd.R_drew)); exact Kd.R_mono (Kd.R_far (p := ⟨gb49, 7, none⟩) (Kd.R_far (p := ⟨gb49, 6, none⟩) (Kd.R_far (p := ⟨gb49, 5, none⟩) (Kd.R_far (p := ⟨gb49, 4, none⟩) (Kd.R_far (p := ⟨gb49, 3, none⟩) (Kd.R_far (p := ⟨gb49, 2, none⟩) (Kd.R_far (p := ⟨gb49, 1, none⟩) (Kd.R_far (p := ⟨gb49, 0, none⟩) (Kd.R_types HO_6.out BK49.out (by decide)) (fun _ hk => hk.2) (.int .i64 ((rd_T48 l0 x7_1).f0))) (fun _ hk => hk.2) (.int .i64 ((rd_T48 l0 x7_1).f1))) (fun _ hk => hk.2) (.int .i64 ((rd_T48 l0 x7_1).f2))) (fun _ hk => hk.2) (.bool ((rd_T48 l0 x7_1).f3))) (fun _ hk => hk.2) (.int .i64 ((rd_T48 l0 x7_1).f4))) (fun _ hk => hk.2) (.bool ((rd_T48 l0 x7_1).f5))) (fun _ hk => hk.2) (.int .i64 ((rd_T48 l0 x7_1).f6))) (fun _ hk => hk.2) (.int .i64 ((rd_T48 l0 x7_1).f7))) (fun _ hk => hk.1)⟩, ⟨zb⟩⟩
     rw [if_neg c9] at H
     exact absurd H (by simp)
    rw [if_neg c8] at H
    exact absurd H (by simp)
   rw [if_neg c7] at H
   have c7b0 : decide (0 ≤ x7_1) = false := decide_eq_false c7
   clear c7
   obtain rfl := Option.some.inj H
   go_wp2
   go_ret
   exact ⟨_, ze, by (with_reducible repeat (first | apply Kd.R_alloc | apply Kd.R_drewN | apply Kd.R_drew)); exact Kd.R_mono HO_6.out (fun _ hk => trivial), zb⟩
set_option maxHeartbeats 8000000 in
set_option maxRecDepth 100000 in
theorem spec_ChainBack.calls (k : Nat) (A0 : Option Addr) (c0 : Nat) (l0 : List (S48)) (a1 : Int) (r1 : Int) (r2 : List Int) (w : World) (hr0 : Kd.C k48 w A0 l0.length l0) (hc0 : l0.length ≤ c0) (h : spec_ChainBack.f k l0 a1 = some (r1, r2)) :
 Calls Try.prog 17 #[.slice A0 l0.length c0, .int .i64 a1] w fun e w' => ∃ v1_ : Value, e = .returned (.agg #[.int .i64 r1, v1_]) ∧ Kd.R (Kd.int .i64) 2 w' w.heap.size (fun _ => True) v1_ r2 ∧ Below w.heap.size w w' := by
 have hu35 := Try.underlying35
 have hu48 := Try.underlying48
 have HR0 := Aside0.mk hr0
 have HC0 := Aside0.mk hc0
 clear hr0 hc0
 have HB := Aside0.mk (Below.refl w.heap.size w)
 have H : (if (l0.length : Int) > 400 then (some (2, ([] : List Int))) else (spec_ChainBack.l0 k l0 a1 0)) = some (r1, r2) := h
 clear h
 by_cases c3 : (l0.length : Int) > 400
 ·rw [if_pos c3] at H
  have c3b0 : decide (400 < (l0.length : Int)) = true := decide_eq_true c3
  have c3b1 : decide (400 < l0.length) = true := decide_eq_true (by omega)
  clear c3
  simp only [Option.some.injEq, Prod.mk.injEq] at H
  obtain ⟨rfl, rfl⟩ := H
  go_enter Try.func17, Try.ntmps17
  go_wp2_with (first | ((with_reducible refine gate_dst (N := 4) rfl ?_); refine box_event ?hg (N := 4) ?hd (cs := #[.int .i64 0, .slice none 0 0]) (t := 35) ?hr ?_; (case hd => rfl); (case hg => rfl); (case hr => first | (go_simp; done) | (go_simp; rfl)); intro gb22 hg w4 hbox hb; have n0_ := Aside0.mk (below_step zb hb); have n1_ := Aside0.mk (hbox); have n2_ := Aside0.mk ((by rw [hg]; exact (below_size zb) : w.heap.size ≤ gb22)); have n3_ := n2_; clear HB; have HB := n0_; have BK22 := n1_; have GW22 := n2_; have GE22 := n3_; clear n0_ n1_ n2_ n3_; clear hb hbox hg; obtain ⟨hcz5_0, hcz5_1, hfz5_0, hfz5_1⟩ := Lv.blks2 BK22.out))
  refine bodyPost_ret (results_cell_row rfl _ _ gb22 35 #[.int .i64 2, .slice none 0 0] (0, 0) _ rfl (by (with_reducible repeat (first | refine blk_drewN ?_ _ | refine blk_drew ?_ | refine blk_alloc ?_ _)); refine blk_put (cs := #[.int .i64 2, .slice none 0 0]) ?_ 1 _ rfl; (with_reducible repeat (first | refine blk_drewN ?_ _ | refine blk_drew ?_ | refine blk_alloc ?_ _)); refine blk_put (cs := #[.int .i64 0, .slice none 0 0]) ?_ 0 _ rfl; (with_reducible repeat (first | refine blk_drewN ?_ _ | refine blk_drew ?_ | refine blk_alloc ?_ _)); exact BK22.out) Try.underlying35 rfl (by kernel_rfl)) rfl ?_
  exact ⟨_, ze, by first | exact Kd.R_nil _ _ _ _ _ | exact Kd.N_nil _ _ _ _ _ | exact Kd.V_nil _ _ _ _ _ | exact Kd.Q_nil _ _ _ _ _ | exact Kd.S_nil _ _ _ _ _, zb⟩
 rw [if_neg c3] at H
 have c3b0 : decide (400 < (l0.length : Int)) = false := decide_eq_false c3
 have c3b1 : decide (400 < l0.length) = false := decide_eq_false (by omega)
 clear c3
 have H' := Aside0.mk H
 clear H
 go_enter Try.func17, Try.ntmps17
 go_wp2_with (first | ((with_reducible refine gate_dst (N := 4) rfl ?_); refine box_event ?hg (N := 4) ?hd (cs := #[.int .i64 0, .slice none 0 0]) (t := 35) ?hr ?_; (case hd => rfl); (case hg => rfl); (case hr => first | (go_simp; done) | (go_simp; rfl)); intro gb22 hg w6 hbox hb; have n0_ := Aside0.mk (below_step zb hb); have n1_ := Aside0.mk (hbox); have n2_ := Aside0.mk ((by rw [hg]; exact (below_size zb) : w.heap.size ≤ gb22)); have n3_ := n2_; clear HB; have HB := n0_; have BK22 := n1_; have GW22 := n2_; have GE22 := n3_; clear n0_ n1_ n2_ n3_; clear hb hbox hg))
 go_loopg [5] k (fun kq v5 w' => ∃ (x5_1 : Int) (x23_1 : Int), v5 = .int .i64 x5_1 ∧ Aside0 (spec_ChainBack.l0 kq l0 a1 x5_1 = some (r1, r2)) ∧ Aside0 (kq ≤ k) ∧ Aside0 (w'.heap[gb22]? = some (.cells #[.int .i64 x23_1, (.slice none 0 0)] 35 (0, 0))) ∧ Aside0 (Below w.heap.size w w'))
 case atStart => exact ⟨(0), (0), zs, H', ⟨Nat.le_refl _⟩, ⟨by (with_reducible repeat (first | refine blk_drewN ?_ _ | refine blk_drew ?_ | refine blk_alloc ?_ _)); exact BK22.out⟩, ⟨zb⟩⟩
 case round =>
  clear H'
  try clear c1
  try clear p2
  try clear c3
  try clear c3b0
  try clear c3b1
  try clear hcz5_0 hcz5_1 hfz5_0 hfz5_1
  obtain ⟨x5_1, x23_1, rfl, HA, HK1, BK22, HB⟩ := hrel
  cases gk with
  | zero => exact absurd HA.out (by simp [spec_ChainBack.l0])
  | succ k1 =>
   have H := HA.out
   clear HA
   simp only [spec_ChainBack.l0] at H
   by_cases c7 : x5_1 < (l0.length : Int)
   ·rw [if_pos c7] at H
    have c7b0 : decide (x5_1 < (l0.length : Int)) = true := decide_eq_true c7
    clear c7
    by_cases c8 : 0 ≤ x5_1
    ·rw [if_pos c8] at H
     have c8b0 : decide (0 ≤ x5_1) = true := decide_eq_true c8
     clear c8
     replace H := Option.bind_eq_some_iff.mp H
     obtain ⟨t25, A90, H⟩ := H
     replace H : (if t25 = 0 then (spec_ChainBack.l0 k1 l0 a1 (wrap64 (x5_1 + 1))) else (some (t25, ([] : List Int)))) = some (r1, r2) := H
     have A9 := Aside0.mk A90
     clear A90
     by_cases c10 : t25 = 0
     ·rw [if_pos c10] at H
      have c10b0 : (t25 == 0) = true := beq_iff_eq.mpr c10
      have c10b1 : (t25 != 0) = false := bne_eq_false_iff_eq.mpr c10
      clear c10
      have H' := Aside0.mk H
      clear H
      have p399 : 0 ≤ (x5_1 : Int) := of_decide_eq_true za
      have q24 : x5_1 < (l0.length : Int) := of_decide_eq_true za
      obtain ⟨ad24, e399, hx24_0, hx24_1, hx24_2, hx24_3, hx24_4, hx24_5, hx24_6, hx24_7⟩ := at_T48 (Kd.C_below HR0.out HB.out) x5_1 p399 q24
      cases e399
      replace p399 := eq_true p399
      replace q24 := eq_true q24
      go_wp2_with (first | ((with_reducible refine gate_callee (f := 52) rfl ?_); refine goesL_ (some 21) rfl rfl Try.func52 (by kernel_rfl) rfl #[.agg #[.int .i64 ((rd_T48 l0 x5_1).f0), .int .i64 ((rd_T48 l0 x5_1).f1), .int .i64 ((rd_T48 l0 x5_1).f2), .bool ((rd_T48 l0 x5_1).f3), .int .i64 ((rd_T48 l0 x5_1).f4), .bool ((rd_T48 l0 x5_1).f5), .int .i64 ((rd_T48 l0 x5_1).f6), .int .i64 ((rd_T48 l0 x5_1).f7)]] rfl zm ?_; (with_reducible refine (spec_RecFault.calls k1 ((rd_T48 l0 x5_1).f0) ((rd_T48 l0 x5_1).f1) ((rd_T48 l0 x5_1).f2) ((rd_T48 l0 x5_1).f3) ((rd_T48 l0 x5_1).f4) ((rd_T48 l0 x5_1).f5) ((rd_T48 l0 x5_1).f6) ((rd_T48 l0 x5_1).f7) t25 _ A9.out).mono ?_); rintro e w11 ⟨rfl, hb⟩; refine ⟨_, rfl, ?_⟩; have n0_ := Aside0.mk (blk_below (g := gb22) (o := .cells #[.int .i64 x23_1, .slice none 0 0] 35 (0, 0)) zk hb); have n1_ := Aside0.mk (below_step zb hb); clear BK22; clear HB; have BK22 := n0_; have HB := n1_; clear n0_ n1_; (try clear hb); (try clear hb2); (try clear hk); (try clear hi)))
      go_roundg k1
      case measure => have := HK1.out; omega
      case rel => exact ⟨(wrap64 (x5_1 + 1)), (x23_1), zs, H', ⟨by have := HK1.out; omega⟩, ⟨by (with_reducible repeat (first | refine blk_drewN ?_ _ | refine blk_drew ?_ | refine blk_alloc ?_ _)); exact BK22.out⟩, ⟨zb⟩⟩
     rw [if_neg c10] at H
     have c10b0 : (t25 == 0) = false := beq_eq_false_iff_ne.mpr c10
     have c10b1 : (t25 != 0) = true := bne_iff_ne.mpr c10
     simp only [Option.some.injEq, Prod.mk.injEq] at H
     obtain ⟨rfl, rfl⟩ := H
     have p399 : 0 ≤ (x5_1 : Int) := of_decide_eq_true za
     have q24 : x5_1 < (l0.length : Int) := of_decide_eq_true za
     obtain ⟨ad24, e399, hx24_0, hx24_1, hx24_2, hx24_3, hx24_4, hx24_5, hx24_6, hx24_7⟩ := at_T48 (Kd.C_below HR0.out HB.out) x5_1 p399 q24
     cases e399
     replace p399 := eq_true p399
     replace q24 := eq_true q24
     go_wp2_with (first | ((with_reducible refine gate_callee (f := 52) rfl ?_); refine goesL_ (some 21) rfl rfl Try.func52 (by kernel_rfl) rfl #[.agg #[.int .i64 ((rd_T48 l0 x5_1).f0), .int .i64 ((rd_T48 l0 x5_1).f1), .int .i64 ((rd_T48 l0 x5_1).f2), .bool ((rd_T48 l0 x5_1).f3), .int .i64 ((rd_T48 l0 x5_1).f4), .bool ((rd_T48 l0 x5_1).f5), .int .i64 ((rd_T48 l0 x5_1).f6), .int .i64 ((rd_T48 l0 x5_1).f7)]] rfl zm ?_; (with_reducible refine (spec_RecFault.calls k1 ((rd_T48 l0 x5_1).f0) ((rd_T48 l0 x5_1).f1) ((rd_T48 l0 x5_1).f2) ((rd_T48 l0 x5_1).f3) ((rd_T48 l0 x5_1).f4) ((rd_T48 l0 x5_1).f5) ((rd_T48 l0 x5_1).f6) ((rd_T48 l0 x5_1).f7) t25 _ A9.out).mono ?_); rintro e w12 ⟨rfl, hb⟩; refine ⟨_, rfl, ?_⟩; have n0_ := Aside0.mk (blk_below (g := gb22) (o := .cells #[.int .i64 x23_1, .slice none 0 0] 35 (0, 0)) zk hb); have n1_ := Aside0.mk (below_step zb hb); clear BK22; clear HB; have BK22 := n0_; have HB := n1_; clear n0_ n1_; (try clear hb); (try clear hb2); (try clear hk); (try clear hi); obtain ⟨hcz13_0, hcz13_1, hfz13_0, hfz13_1⟩ := Lv.blks2 BK22.out))
     refine bodyPost_ret (results_cell_row rfl _ _ gb22 35 #[.int .i64 t25, .slice none 0 0] (0, 0) _ rfl (by (with_reducible repeat (first | refine blk_drewN ?_ _ | refine blk_drew ?_ | refine blk_alloc ?_ _)); refine blk_put (cs := #[.int .i64 t25, .slice none 0 0]) ?_ 1 _ rfl; (with_reducible repeat (first | refine blk_drewN ?_ _ | refine blk_drew ?_ | refine blk_alloc ?_ _)); refine blk_put (cs := #[.int .i64 x23_1, .slice none 0 0]) ?_ 0 _ rfl; (with_reducible repeat (first | refine blk_drewN ?_ _ | refine blk_drew ?_ | refine blk_alloc ?_ _)); exact BK22.out) Try.underlying35 rfl (by kernel_rfl)) rfl ?_
     exact ⟨_, ze, by first | exact Kd.R_nil _ _ _ _ _ | exact Kd.N_nil _ _ _ _ _ | exact Kd.V_nil _ _ _ _ _ | exact Kd.Q_nil _ _ _ _ _ | exact Kd.S_nil _ _ _ _ _, zb⟩
    rw [if_neg c8] at H
    exact absurd H (by simp)
   rw [if_neg c7] at H
   have c7b0 : decide (x5_1 < (l0.length : Int)) = false := decide_eq_false c7
   clear c7
   replace H := Option.bind_eq_some_iff.mp H
   obtain ⟨t28, A29, H⟩ := H
   replace H : (if t28 = true then ((spec_l3Back.f k1 l0 a1).bind fun t26 => (some (0, t26))) else (some (3, ([] : List Int)))) = some (r1, r2) := H
   have A14 := Aside0.mk A29
   clear A29
   by_cases c15 : t28 = true
   ·subst c15
    have H1 : ((spec_l3Back.f k1 l0 a1).bind fun t26 => (some (0, t26))) = some (r1, r2) := by rw [if_pos rfl] at H; exact H
    clear H
    have H := H1
    clear H1
    replace H := Option.bind_eq_some_iff.mp H
    obtain ⟨t26, A30, H⟩ := H
    replace H : (some (0, t26)) = some (r1, r2) := H
    have A16 := Aside0.mk A30
    clear A30
    simp only [Option.some.injEq, Prod.mk.injEq] at H
    obtain ⟨rfl, rfl⟩ := H
    go_wp2_with (first | ((with_reducible refine gate_callee (f := 53) rfl ?_); refine goesL_ (some 27) rfl rfl Try.func53 (by kernel_rfl) rfl #[.int .i64 a1] rfl zm ?_; (with_reducible refine (spec_l3Txn.calls a1 true _ A14.out).mono ?_); rintro e w' ⟨rfl, ⟨nd, rfl⟩⟩; refine ⟨_, rfl, ?_⟩; (try (rw [drewN_self wr]; generalize hq_ : World.drewN wr _ = wr; have n0_ : Aside0 (wr.heap[gb22]? = some (.cells #[.int .i64 x23_1, .slice none 0 0] 35 (0, 0))) := ⟨by rw [← hq_]; exact zk⟩; have n1_ : Aside0 (Below w.heap.size w wr) := ⟨by rw [← hq_]; exact zb⟩; clear BK22 HB hq_; have BK22 := n0_; have HB := n1_; clear n0_ n1_))) | ((with_reducible refine gate_callee (f := 54) rfl ?_); refine goesL_ (some 32) rfl rfl Try.func54 (by kernel_rfl) rfl #[.slice A0 l0.length c0, .int .i64 a1] rfl zm ?_; (with_reducible refine (spec_l3Back.calls k1 _ _ l0 a1 t26 _ ?side1 ?side2 A16.out).mono ?_); (case side1 => repeat (first | exact (Kd.C_below HR0.out HB.out) | (with_reducible first | refine Kd.C_alloc ?_ _ | refine Kd.C_drewN ?_ _ | refine Kd.C_drew ?_))); (case side2 => exact HC0.out); rintro e w17 ⟨v33, rfl, ho0, hb⟩; refine ⟨_, rfl, ?_⟩; have n0_ := Aside0.mk (Kd.R_lower ho0 (below_size zb)); have n1_ := Aside0.mk (blk_below (g := gb22) (o := .cells #[.int .i64 x23_1, .slice none 0 0] 35 (0, 0)) zk hb); have n2_ := Aside0.mk (below_step zb hb); clear BK22; clear HB; have HO31 := n0_; have BK22 := n1_; have HB := n2_; clear n0_ n1_ n2_; (try clear hb); (try clear hb2); (try clear hk); (try clear hi); (try clear ho0); obtain ⟨Ao18, co18, eo18⟩ := Kd.R_slice HO31.out; subst eo18; obtain ⟨hcz19_0, hcz19_1, hfz19_0, hfz19_1⟩ := Lv.blks2 BK22.out))
    refine bodyPost_ret (results_cell_row rfl _ _ gb22 35 #[.int .i64 0, .slice Ao18 t26.length co18] (0, 0) _ rfl (by (with_reducible repeat (first | refine blk_drewN ?_ _ | refine blk_drew ?_ | refine blk_alloc ?_ _)); refine blk_put (cs := #[.int .i64 0, .slice none 0 0]) ?_ 1 _ rfl; (with_reducible repeat (first | refine blk_drewN ?_ _ | refine blk_drew ?_ | refine blk_alloc ?_ _)); refine blk_put (cs := #[.int .i64 x23_1, .slice none 0 0]) ?_ 0 _ rfl; (with_reducible repeat (first | refine blk_drewN ?_ _ | refine blk_drew ?_ | refine blk_alloc ?_ _)); exact BK22.out) Try.underlying35 rfl (by kernel_rfl)) rfl ?_
    exact ⟨_, ze, by (with_reducible repeat (first | apply Kd.R_alloc | apply Kd.R_drewN | apply Kd.R_drew)); exact Kd.R_mono (Kd.R_far (p := ⟨gb22, 1, none⟩) (Kd.R_far (p := ⟨gb22, 0, none⟩) (Kd.R_types HO31.out BK22.out (by decide)) (fun _ hk => hk.2) (.int .i64 0)) (fun _ hk => hk.2) (.slice Ao18 t26.length co18)) (fun _ hk => trivial), zb⟩
   replace c15 := Bool.eq_false_iff.mpr c15
   subst c15
   have H1 : (some (3, ([] : List Int))) = some (r1, r2) := by rw [if_neg (show ¬ (false = true) by decide)] at H; exact H
   clear H
   have H := H1
   clear H1
   simp only [Option.some.injEq, Prod.mk.injEq] at H
   obtain ⟨rfl, rfl⟩ := H
   go_wp2_with (first | ((with_reducible refine gate_callee (f := 53) rfl ?_); refine goesL_ (some 27) rfl rfl Try.func53 (by kernel_rfl) rfl #[.int .i64 a1] rfl zm ?_; (with_reducible refine (spec_l3Txn.calls a1 false _ A14.out).mono ?_); rintro e w' ⟨rfl, ⟨nd, rfl⟩⟩; refine ⟨_, rfl, ?_⟩; (try (rw [drewN_self wr]; generalize hq_ : World.drewN wr _ = wr; have n0_ : Aside0 (wr.heap[gb22]? = some (.cells #[.int .i64 x23_1, .slice none 0 0] 35 (0, 0))) := ⟨by rw [← hq_]; exact zk⟩; have n1_ : Aside0 (Below w.heap.size w wr) := ⟨by rw [← hq_]; exact zb⟩; clear BK22 HB hq_; have BK22 := n0_; have HB := n1_; clear n0_ n1_)); obtain ⟨hcz20_0, hcz20_1, hfz20_0, hfz20_1⟩ := Lv.blks2 BK22.out))
   refine bodyPost_ret (results_cell_row rfl _ _ gb22 35 #[.int .i64 3, .slice none 0 0] (0, 0) _ rfl (by (with_reducible repeat (first | refine blk_drewN ?_ _ | refine blk_drew ?_ | refine blk_alloc ?_ _)); refine blk_put (cs := #[.int .i64 3, .slice none 0 0]) ?_ 1 _ rfl; (with_reducible repeat (first | refine blk_drewN ?_ _ | refine blk_drew ?_ | refine blk_alloc ?_ _)); refine blk_put (cs := #[.int .i64 x23_1, .slice none 0 0]) ?_ 0 _ rfl; (with_reducible repeat (first | refine blk_drewN ?_ _ | refine blk_drew ?_ | refine blk_alloc ?_ _)); exact BK22.out) Try.underlying35 rfl (by kernel_rfl)) rfl ?_
   exact ⟨_, ze, by first | exact Kd.R_nil _ _ _ _ _ | exact Kd.N_nil _ _ _ _ _ | exact Kd.V_nil _ _ _ _ _ | exact Kd.Q_nil _ _ _ _ _ | exact Kd.S_nil _ _ _ _ _, zb⟩
set_option maxHeartbeats 8000000 in
set_option maxRecDepth 100000 in
theorem impl_recsFault.calls (k : Nat) (A0 : Option Addr) (c0 : Nat) (l0 : List (S48)) (r : Int) (w : World) (hr0 : Kd.C k48 w A0 l0.length l0) (hc0 : l0.length ≤ c0) (h : impl_recsFault.f k l0 = some r) :
 Calls Try.prog 56 #[.slice A0 l0.length c0] w fun e w' => e = .returned (.int .i64 r) ∧ Below w.heap.size w w' := by
 have hu48 := Try.underlying48
 have HR0 := Aside0.mk hr0
 have HC0 := Aside0.mk hc0
 clear hr0 hc0
 have HB := Aside0.mk (Below.refl w.heap.size w)
 have H : (if (l0.length : Int) > 400 then (some 2) else (impl_recsFault.l0 k l0 (l0.length : Int) 0)) = some r := h
 clear h
 by_cases c2 : (l0.length : Int) > 400
 ·rw [if_pos c2] at H
  have c2b0 : decide (400 < (l0.length : Int)) = true := decide_eq_true c2
  have c2b1 : decide (400 < l0.length) = true := decide_eq_true (by omega)
  clear c2
  obtain rfl := Option.some.inj H
  go_enter Try.func56, Try.ntmps56
  go_wp2
  go_ret
  exact ⟨ze, zb⟩
 rw [if_neg c2] at H
 have c2b0 : decide (400 < (l0.length : Int)) = false := decide_eq_false c2
 have c2b1 : decide (400 < l0.length) = false := decide_eq_false (by omega)
 clear c2
 have H' := Aside0.mk H
 clear H
 go_enter Try.func56, Try.ntmps56
 go_wp2
 go_loopg [11] k (fun kq v11 w' => ∃ (x11_1 : Int), v11 = .int .i64 x11_1 ∧ Aside0 (impl_recsFault.l0 kq l0 (l0.length : Int) x11_1 = some r) ∧ Aside0 (kq ≤ k) ∧ Aside0 (Below w.heap.size w w'))
 case atStart => exact ⟨(0), zs, H', ⟨Nat.le_refl _⟩, ⟨zb⟩⟩
 case round =>
  clear H'
  try clear c2
  try clear c2b0
  try clear c2b1
  try clear p2
  obtain ⟨x11_1, rfl, HA, HK1, HB⟩ := hrel
  cases gk with
  | zero => exact absurd HA.out (by simp [impl_recsFault.l0])
  | succ k1 =>
   have H := HA.out
   clear HA
   simp only [impl_recsFault.l0] at H
   by_cases c3 : x11_1 < (l0.length : Int)
   ·rw [if_pos c3] at H
    have c3b0 : decide (x11_1 < (l0.length : Int)) = true := decide_eq_true c3
    clear c3
    by_cases c4 : 0 ≤ x11_1
    ·rw [if_pos c4] at H
     have c4b0 : decide (0 ≤ x11_1) = true := decide_eq_true c4
     clear c4
     by_cases c5 : x11_1 < (l0.length : Int)
     ·rw [if_pos c5] at H
      have c5b0 : decide (x11_1 < (l0.length : Int)) = true := decide_eq_true c5
      clear c5
      replace H := Option.bind_eq_some_iff.mp H
      obtain ⟨t17, A60, H⟩ := H
      replace H : (if t17 = 0 then (impl_recsFault.l0 k1 l0 (l0.length : Int) (wrap64 (x11_1 + 1))) else (some t17)) = some r := H
      have A6 := Aside0.mk A60
      clear A60
      by_cases c7 : t17 = 0
      ·rw [if_pos c7] at H
       have c7b0 : (t17 == 0) = true := beq_iff_eq.mpr c7
       have c7b1 : (t17 != 0) = false := bne_eq_false_iff_eq.mpr c7
       clear c7
       have H' := Aside0.mk H
       clear H
       have p421 : 0 ≤ (x11_1 : Int) := of_decide_eq_true za
       have q14 : x11_1 < (l0.length : Int) := of_decide_eq_true za
       obtain ⟨ad14, e421, hx14_0, hx14_1, hx14_2, hx14_3, hx14_4, hx14_5, hx14_6, hx14_7⟩ := at_T48 (Kd.C_below HR0.out HB.out) x11_1 p421 q14
       cases e421
       replace p421 := eq_true p421
       replace q14 := eq_true q14
       go_wp2_with (first | ((with_reducible refine gate_dst (N := 4) rfl ?_); refine box_event ?hg (N := 4) ?hd (cs := #[.int .i64 0, .int .i64 0, .int .i64 0, .bool false, .int .i64 0, .bool false, .int .i64 0, .int .i64 0]) (t := 48) ?hr ?_; (case hd => rfl); (case hg => rfl); (case hr => first | (go_simp; done) | (go_simp; rfl)); intro gb15 hg w8 hbox hb; have n0_ := Aside0.mk (below_step zb hb); have n1_ := Aside0.mk (hbox); have n2_ := Aside0.mk ((by rw [hg]; exact (below_size zb) : w.heap.size ≤ gb15)); have n3_ := n2_; clear HB; have HB := n0_; have BK15 := n1_; have GW15 := n2_; have GE15 := n3_; clear n0_ n1_ n2_ n3_; clear hb hbox hg; obtain ⟨hcz9_0, hcz9_1, hcz9_2, hcz9_3, hcz9_4, hcz9_5, hcz9_6, hcz9_7, hfz9_0, hfz9_1, hfz9_2, hfz9_3, hfz9_4, hfz9_5, hfz9_6, hfz9_7⟩ := Lv.blks8 BK15.out) | ((with_reducible refine gate_callee (f := 82) rfl ?_); refine goesL_ (some 16) rfl rfl Try.func82 (by kernel_rfl) rfl #[.agg #[.int .i64 ((rd_T48 l0 x11_1).f0), .int .i64 ((rd_T48 l0 x11_1).f1), .int .i64 ((rd_T48 l0 x11_1).f2), .bool ((rd_T48 l0 x11_1).f3), .int .i64 ((rd_T48 l0 x11_1).f4), .bool ((rd_T48 l0 x11_1).f5), .int .i64 ((rd_T48 l0 x11_1).f6), .int .i64 ((rd_T48 l0 x11_1).f7)]] rfl zm ?_; (with_reducible refine (impl_RecFault.calls k1 ((rd_T48 l0 x11_1).f0) ((rd_T48 l0 x11_1).f1) ((rd_T48 l0 x11_1).f2) ((rd_T48 l0 x11_1).f3) ((rd_T48 l0 x11_1).f4) ((rd_T48 l0 x11_1).f5) ((rd_T48 l0 x11_1).f6) ((rd_T48 l0 x11_1).f7) t17 _ A6.out).mono ?_); rintro e w10 ⟨rfl, hb⟩; refine ⟨_, rfl, ?_⟩; have n0_ := Aside0.mk (blk_below (g := gb15) (o := .cells #[.int .i64 ((rd_T48 l0 x11_1).f0), .int .i64 ((rd_T48 l0 x11_1).f1), .int .i64 ((rd_T48 l0 x11_1).f2), .bool ((rd_T48 l0 x11_1).f3), .int .i64 ((rd_T48 l0 x11_1).f4), .bool ((rd_T48 l0 x11_1).f5), .int .i64 ((rd_T48 l0 x11_1).f6), .int .i64 ((rd_T48 l0 x11_1).f7)] 48 (0, 0)) (by (with_reducible repeat (first | refine blk_drewN ?_ _ | refine blk_drew ?_ | refine blk_alloc ?_ _)); refine blk_put (cs := #[.int .i64 ((rd_T48 l0 x11_1).f0), .int .i64 ((rd_T48 l0 x11_1).f1), .int .i64 ((rd_T48 l0 x11_1).f2), .bool ((rd_T48 l0 x11_1).f3), .int .i64 ((rd_T48 l0 x11_1).f4), .bool ((rd_T48 l0 x11_1).f5), .int .i64 ((rd_T48 l0 x11_1).f6), .int .i64 0]) ?_ 7 _ rfl; (with_reducible repeat (first | refine blk_drewN ?_ _ | refine blk_drew ?_ | refine blk_alloc ?_ _)); refine blk_put (cs := #[.int .i64 ((rd_T48 l0 x11_1).f0), .int .i64 ((rd_T48 l0 x11_1).f1), .int .i64 ((rd_T48 l0 x11_1).f2), .bool ((rd_T48 l0 x11_1).f3), .int .i64 ((rd_T48 l0 x11_1).f4), .bool ((rd_T48 l0 x11_1).f5), .int .i64 0, .int .i64 0]) ?_ 6 _ rfl; (with_reducible repeat (first | refine blk_drewN ?_ _ | refine blk_drew ?_ | refine blk_alloc ?_ _)); refine blk_put (cs := #[.int .i64 ((rd_T48 l0 x11_1).f0), .int .i64 ((rd_T48 l0 x11_1).f1), .int .i64 ((rd_T48 l0 x11_1).f2), .bool ((rd_T48 l0 x11_1).f3), .int .i64 ((rd_T48 l0 x11_1).f4), .bool false, .int .i64 0, .int .i64 0]) ?_ 5 _ rfl; (with_reducible repeat (first | refine blk_drewN ?_ _ | refine blk_drew ?_ | refine blk_alloc ?_ _)); refine blk_put (cs := #[.int .i64 ((rd_T48 l0 x11_1).f0), .int .i64 ((rd_T48 l0 x11_1).f1), .int .i64 ((rd_T48 l0 x11_1).f2), .bool ((rd_T48 l0 x11_1).f3), .int .i64 0, .bool false, .int .i64 0, .int .i64 0]) ?_ 4 _ rfl; (with_reducible repeat (first | refine blk_drewN ?_ _ | refine blk_drew ?_ | refine blk_alloc ?_ _)); refine blk_put (cs := #[.int .i64 ((rd_T48 l0 x11_1).f0), .int .i64 ((rd_T48 l0 x11_1).f1), .int .i64 ((rd_T48 l0 x11_1).f2), .bool false, .int .i64 0, .bool false, .int .i64 0, .int .i64 0]) ?_ 3 _ rfl; (with_reducible repeat (first | refine blk_drewN ?_ _ | refine blk_drew ?_ | refine blk_alloc ?_ _)); refine blk_put (cs := #[.int .i64 ((rd_T48 l0 x11_1).f0), .int .i64 ((rd_T48 l0 x11_1).f1), .int .i64 0, .bool false, .int .i64 0, .bool false, .int .i64 0, .int .i64 0]) ?_ 2 _ rfl; (with_reducible repeat (first | refine blk_drewN ?_ _ | refine blk_drew ?_ | refine blk_alloc ?_ _)); refine blk_put (cs := #[.int .i64 ((rd_T48 l0 x11_1).f0), .int .i64 0, .int .i64 0, .bool false, .int .i64 0, .bool false, .int .i64 0, .int .i64 0]) ?_ 1 _ rfl; (with_reducible repeat (first | refine blk_drewN ?_ _ | refine blk_drew ?_ | refine blk_alloc ?_ _)); refine blk_put (cs := #[.int .i64 0, .int .i64 0, .int .i64 0, .bool false, .int .i64 0, .bool false, .int .i64 0, .int .i64 0]) ?_ 0 _ rfl; (with_reducible repeat (first | refine blk_drewN ?_ _ | refine blk_drew ?_ | refine blk_alloc ?_ _)); exact BK15.out) hb); have n1_ := Aside0.mk (below_step zb hb); clear BK15; clear HB; have BK15 := n0_; have HB := n1_; clear n0_ n1_; (try clear hb); (try clear hb2); (try clear hk); (try clear hi)))
       go_roundg k1
       case measure => have := HK1.out; omega
       case rel => exact ⟨(wrap64 (x11_1 + 1)), zs, H', ⟨by have := HK1.out; omega⟩, ⟨zb⟩⟩
      rw [if_neg c7] at H
      have c7b0 : (t17 == 0) = false := beq_eq_false_iff_ne.mpr c7
      have c7b1 : (t17 != 0) = true := bne_iff_ne.mpr c7
      obtain rfl := Option.some.inj H
      have p421 : 0 ≤ (x11_1 : Int) := of_decide_eq_true za
      have q14 : x11_1 < (l0.length : Int) := of_decide_eq_true za
      obtain ⟨ad14, e421, hx14_0, hx14_1, hx14_2, hx14_3, hx14_4, hx14_5, hx14_6, hx14_7⟩ := at_T48 (Kd.C_below HR0.out HB.out) x11_1 p421 q14
      cases e421
      replace p421 := eq_true p421
      replace q14 := eq_true q14
      go_wp2_with (first | ((with_reducible refine gate_dst (N := 4) rfl ?_); refine box_event ?hg (N := 4) ?hd (cs := #[.int .i64 0, .int .i64 0, .int .i64 0, .bool false, .int .i64 0, .bool false, .int .i64 0, .int .i64 0]) (t := 48) ?hr ?_; (case hd => rfl); (case hg => rfl); (case hr => first | (go_simp; done) | (go_simp; rfl)); intro gb15 hg w11 hbox hb; have n0_ := Aside0.mk (below_step zb hb); have n1_ := Aside0.mk (hbox); have n2_ := Aside0.mk ((by rw [hg]; exact (below_size zb) : w.heap.size ≤ gb15)); have n3_ := n2_; clear HB; have HB := n0_; have BK15 := n1_; have GW15 := n2_; have GE15 := n3_; clear n0_ n1_ n2_ n3_; clear hb hbox hg; obtain ⟨hcz12_0, hcz12_1, hcz12_2, hcz12_3, hcz12_4, hcz12_5, hcz12_6, hcz12_7, hfz12_0, hfz12_1, hfz12_2, hfz12_3, hfz12_4, hfz12_5, hfz12_6, hfz12_7⟩ := Lv.blks8 BK15.out) | ((with_reducible refine gate_callee (f := 82) rfl ?_); refine goesL_ (some 16) rfl rfl Try.func82 (by kernel_rfl) rfl #[.agg #[.int .i64 ((rd_T48 l0 x11_1).f0), .int .i64 ((rd_T48 l0 x11_1).f1), .int .i64 ((rd_T48 l0 x11_1).f2), .bool ((rd_T48 l0 x11_1).f3), .int .i64 ((rd_T48 l0 x11_1).f4), .bool ((rd_T48 l0 x11_1).f5), .int .i64 ((rd_T48 l0 x11_1).f6), .int .i64 ((rd_T48 l0 x11_1).f7)]] rfl zm ?_; (with_reducible refine (impl_RecFault.calls k1 ((rd_T48 l0 x11_1).f0) ((rd_T48 l0 x11_1).f1) ((rd_T48 l0 x11_1).f2) ((rd_T48 l0 x11_1).f3) ((rd_T48 l0 x11_1).f4) ((rd_T48 l0 x11_1).f5) ((rd_T48 l0 x11_1).f6) ((rd_T48 l0 x11_1).f7) t17 _ A6.out).mono ?_); rintro e w13 ⟨rfl, hb⟩; refine ⟨_, rfl, ?_⟩; have n0_ := Aside0.mk (blk_below (g := gb15) (o := .cells #[.int .i64 ((rd_T48 l0 x11_1).f0), .int .i64 ((rd_T48 l0 x11_1).f1), .int .i64 ((rd_T48 l0 x11_1).f2), .bool ((rd_T48 l0 x11_1).f3), .int .i64 ((rd_T48 l0 x11_1).f4), .bool ((rd_T48 l0 x11_1).f5), .int .i64 ((rd_T48 l0 x11_1).f6), .int .i64 ((rd_T48 l0 x11_1).f7)] 48 (0, 0)) (by (with_reducible repeat (first | refine blk_drewN ?_ _ | refine blk_drew ?_ | refine blk_alloc ?_ _)); refine blk_put (cs := #[.int .i64 ((rd_T48 l0 x11_1).f0), .int .i64 ((rd_T48 l0 x11_1).f1), .int .i64 ((rd_T48 l0 x11_1).f2), .bool ((rd_T48 l0 x11_1).f3), .int .i64 ((rd_T48 l0 x11_1).f4), .bool ((rd_T48 l0 x11_1).f5), .int .i64 ((rd_T48 l0 x11_1).f6), .int .i64 0]) ?_ 7 _ rfl; (with_reducible repeat (first | refine blk_drewN ?_ _ | refine blk_drew ?_ | refine blk_alloc ?_ _)); refine blk_put (cs := #[.int .i64 ((rd_T48 l0 x11_1).f0), .int .i64 ((rd_T48 l0 x11_1).f1), .int .i64 ((rd_T48 l0 x11_1).f2), .bool ((rd_T48 l0 x11_1).f3), .int .i64 ((rd_T48 l0 x11_1).f4), .bool ((rd_T48 l0 x11_1).f5), .int .i64 0, .int .i64 0]) ?_ 6 _ rfl; (with_reducible repeat (first | refine blk_drewN ?_ _ | refine blk_drew ?_ | refine blk_alloc ?_ _)); refine blk_put (cs := #[.int .i64 ((rd_T48 l0 x11_1).f0), .int .i64 ((rd_T48 l0 x11_1).f1), .int .i64 ((rd_T48 l0 x11_1).f2), .bool ((rd_T48 l0 x11_1).f3), .int .i64 ((rd_T48 l0 x11_1).f4), .bool false, .int .i64 0, .int .i64 0]) ?_ 5 _ rfl; (with_reducible repeat (first | refine blk_drewN ?_ _ | refine blk_drew ?_ | refine blk_alloc ?_ _)); refine blk_put (cs := #[.int .i64 ((rd_T48 l0 x11_1).f0), .int .i64 ((rd_T48 l0 x11_1).f1), .int .i64 ((rd_T48 l0 x11_1).f2), .bool ((rd_T48 l0 x11_1).f3), .int .i64 0, .bool false, .int .i64 0, .int .i64 0]) ?_ 4 _ rfl; (with_reducible repeat (first | refine blk_drewN ?_ _ | refine blk_drew ?_ | refine blk_alloc ?_ _)); refine blk_put (cs := #[.int .i64 ((rd_T48 l0 x11_1).f0), .int .i64 ((rd_T48 l0 x11_1).f1), .int .i64 ((rd_T48 l0 x11_1).f2), .bool false, .int .i64 0, .bool false, .int .i64 0, .int .i64 0]) ?_ 3 _ rfl; (with_reducible repeat (first | refine blk_drewN ?_ _ | refine blk_drew ?_ | refine blk_alloc ?_ _)); refine blk_put (cs := #[.int .i64 ((rd_T48 l0 x11_1).f0), .int .i64 ((rd_T48 l0 x11_1).f1), .int .i64 0, .bool false, .int .i64 0, .bool false, .int .i64 0, .int .i64 0]) ?_ 2 _ rfl; (with_reducible repeat (first | refine blk_drewN ?_ _ | refine blk_drew ?_ | refine blk_alloc ?_ _)); refine blk_put (cs := #[.int .i64 ((rd_T48 l0 x11_1).f0), .int .i64 0, .int .i64 0, .bool false, .int .i64 0, .bool false, .int .i64 0, .int .i64 0]) ?_ 1 _ rfl; (with_reducible repeat (first | refine blk_drewN ?_ _ | refine blk_drew ?_ | refine blk_alloc ?_ _)); refine blk_put (cs := #[.int .i64 0, .int .i64 0, .int .i64 0, .bool false, .int .i64 0, .bool false, .int .i64 0, .int .i64 0]) ?_ 0 _ rfl; (with_reducible repeat (first | refine blk_drewN ?_ _ | refine blk_drew ?_ | refine blk_alloc ?_ _)); exact BK15.out) hb); have n1_ := Aside0.mk (below_step zb hb); clear BK15; clear HB; have BK15 := n0_; have HB := n1_; clear n0_ n1_; (try clear hb); (try clear hb2); (try clear hk); (try clear hi)))
      go_ret
      exact ⟨ze, zb⟩
     rw [if_neg c5] at H
     exact absurd H (by simp)
    rw [if_neg c4] at H
    exact absurd H (by simp)
   rw [if_neg c3] at H
   have c3b0 : decide (x11_1 < (l0.length : Int)) = false := decide_eq_false c3
   clear c3
   obtain rfl := Option.some.inj H
   go_wp2
   go_ret
   exact ⟨ze, zb⟩
-- PROOF --
set_option maxHeartbeats 8000000 in
set_option maxRecDepth 100000 in
theorem slices_IndexFunc_impl_Rec.calls (g : Nat) (lb : Array Value) (p : S48 → Bool) (A0 : Option Addr) (c0 : Nat) (l0 : List (S48)) (w : World) (hr0 : Kd.C k48 w A0 l0.length l0)
 (hp : ∀ (W : World) (x : S48), x ∈ l0 → Below w.heap.size w W → Calls Try.prog g (#[.agg #[.int .i64 x.f0, .int .i64 x.f1, .int .i64 x.f2, .bool x.f3, .int .i64 x.f4, .bool x.f5, .int .i64 x.f6, .int .i64 x.f7]] ++ lb) W fun e w' => e = .returned (.bool (p x)) ∧ Below W.heap.size W w')
 (eg : ∀ args w, (callFunc g args).run Try.prog w = .ok (.enter g args) w) :
 Calls Try.prog 102 #[.slice A0 l0.length c0, .func (.func g) #[] lb] w fun e w' => e = .returned (.int .i64 (Go.Proofs.Ythagppmaofcllaa.Lb.idx p l0)) ∧ Below w.heap.size w w' := by
 have hu48 := Try.underlying48
 have hn := hr0.2.1
 have HR0 := Aside0.mk hr0
 clear hr0
 go_enter Try.func102, Try.ntmps102
 go_wp2
 go_loopg [5, 8] (l0.length + 1) (fun gg _ s8 wr => ∃ x : Int, 0 ≤ x ∧ x ≤ (l0.length : Int) ∧ Aside0 (l0.length + 1 - x.toNat ≤ gg) ∧ s8 = .int .i64 x ∧ Aside0 (Below w.heap.size w wr) ∧ Aside0 (∀ j : Nat, j < x.toNat → p (l0.getD j z48) = false))
 case atStart => exact ⟨0, by omega, by omega, ⟨by simp⟩, rfl, ⟨Below.refl _ _⟩, ⟨fun j hj => by simp at hj⟩⟩
 case round =>
  obtain ⟨x, hx0, hx1, HG, rfl, HB, HA⟩ := hrel
  by_cases c3 : x < (l0.length : Int)
  ·have c3b0 : decide (x < (l0.length : Int)) = true := decide_eq_true c3
   have c4b0 : decide (0 ≤ x) = true := decide_eq_true hx0
   obtain ⟨ad, e1, q0, q1, q2, q3, q4, q5, q6, q7⟩ := at_T48 HR0.out x hx0 c3
   cases e1
   replace q0 := zx HB q0
   replace q1 := zx HB q1
   replace q2 := zx HB q2
   replace q3 := zx HB q3
   replace q4 := zx HB q4
   replace q5 := zx HB q5
   replace q6 := zx HB q6
   replace q7 := zx HB q7
   have hx : x.toNat < l0.length := by omega
   have hrd : rd_T48 l0 x = l0.getD x.toNat z48 := rfl
   have hcall := hp wr (rd_T48 l0 x) (by rw [hrd, List.getD_eq_getElem?_getD, List.getElem?_eq_getElem hx]; exact List.getElem_mem hx) HB.out
   clear hp hrd
   cases hq : p (rd_T48 l0 x) with
   | true =>
    rw [hq] at hcall
    have HQ := Aside0.mk hq
    clear hq
    go_wp2_with (go_at_fn g; refine hcall.mono ?_; rintro e w' ⟨rfl, hb'⟩)
    go_ret
    refine ⟨?_, HB.out.trans (hb'.mono HB.out.size)⟩
    unfold Go.Proofs.Ythagppmaofcllaa.Lb.idx
    rw [Go.Proofs.Ythagppmaofcllaa.Lb.idx_hit p z48 l0 x.toNat 0 hx HA.out HQ.out]
    rw [show (0 : Int) + (x.toNat : Int) = x by omega]
    rfl
   | false =>
    rw [hq] at hcall
    have HQ := Aside0.mk hq
    clear hq
    go_wp2_with (go_at_fn g; refine hcall.mono ?_; rintro e w' ⟨rfl, hb'⟩)
    go_roundg (l0.length + 1 - (x + 1).toNat)
    case measure => have := HG.out; omega
    case rel => exact ⟨x + 1, by omega, by omega, ⟨by omega⟩, by first | rfl | go_num, ⟨HB.out.trans (hb'.mono HB.out.size)⟩, ⟨fun j hj => by
     by_cases e : j = x.toNat
     ·subst e; exact HQ.out
     exact HA.out j (by omega)⟩⟩
  have hxx : x = (l0.length : Int) := by omega
  have c3b0 : decide (x < (l0.length : Int)) = false := decide_eq_false c3
  have hm : Go.Proofs.Ythagppmaofcllaa.Lb.idx p l0 = -1 := by
   unfold Go.Proofs.Ythagppmaofcllaa.Lb.idx
   exact Go.Proofs.Ythagppmaofcllaa.Lb.idx_miss p z48 l0 0 (fun j hj => HA.out j (by omega))
  have HM := Aside0.mk hm
  clear hm
  have HX := Aside0.mk hxx
  clear hxx
  go_wp2
  go_ret
  exact ⟨by rw [HM.out]; rfl, HB.out⟩
-- PROOF --
set_option maxHeartbeats 8000000 in
set_option maxRecDepth 100000 in
theorem slices_ContainsFunc_impl_Rec.calls (g : Nat) (lb : Array Value) (p : S48 → Bool) (A0 : Option Addr) (c0 : Nat) (l0 : List (S48)) (w : World) (hr0 : Kd.C k48 w A0 l0.length l0)
 (hp : ∀ (W : World) (x : S48), x ∈ l0 → Below w.heap.size w W → Calls Try.prog g (#[.agg #[.int .i64 x.f0, .int .i64 x.f1, .int .i64 x.f2, .bool x.f3, .int .i64 x.f4, .bool x.f5, .int .i64 x.f6, .int .i64 x.f7]] ++ lb) W fun e w' => e = .returned (.bool (p x)) ∧ Below W.heap.size W w')
 (eg : ∀ args w, (callFunc g args).run Try.prog w = .ok (.enter g args) w) :
 Calls Try.prog 88 #[.slice A0 l0.length c0, .func (.func g) #[] lb] w fun e w' => e = .returned (.bool (l0.any p)) ∧ Below w.heap.size w w' := by
 have hcon := slices_IndexFunc_impl_Rec.calls g lb p A0 c0 l0 w hr0 hp eg
 rw [← Go.Proofs.Ythagppmaofcllaa.Lb.idx_any p l0]
 clear hr0 hp
 generalize Go.Proofs.Ythagppmaofcllaa.Lb.idx p l0 = r at hcon ⊢
 have HC := Aside0.mk hcon
 clear hcon
 go_enter Try.func88, Try.ntmps88
 go_wp2_with (go_at_call 102; refine HC.out.mono ?_; rintro e w' ⟨rfl, hb'⟩)
 go_ret
 exact ⟨rfl, hb'⟩
-- PROOF --
set_option maxHeartbeats 2000000 in
set_option maxRecDepth 100000 in
theorem impl_chain.p_calls (x : S48) (txn n : Int) (B C : Nat) (W : World) (hB : B < W.heap.size) (hC : C < W.heap.size) (q0 : W.cell? ⟨B, 0, none⟩ = some (.int .i64 txn)) (q1 : W.cell? ⟨C, 0, none⟩ = some (.int .i64 n)) :
 Calls Try.prog 89 #[.agg #[.int .i64 x.f0, .int .i64 x.f1, .int .i64 x.f2, .bool x.f3, .int .i64 x.f4, .bool x.f5, .int .i64 x.f6, .int .i64 x.f7], .pointer (some ⟨B, 0, none⟩), .pointer (some ⟨C, 0, none⟩)] W fun e w' => e = .returned (.bool (impl_chain.p txn n x)) ∧ Below W.heap.size W w' := by
 have hu48 := Try.underlying48
 rcases x with ⟨a, b, c, d, e, f, g, h⟩
 simp only [impl_chain.p]
 have HB := Aside0.mk (Below.refl W.heap.size W)
 have hne : B ≠ W.heap.size := by omega
 have hne2 : C ≠ W.heap.size := by omega
 by_cases e1 : a = 5
 ·have t1 : (a == 5) = true := by simpa using e1
  by_cases e2 : b = txn
  ·have t2 : (b == txn) = true := by simpa using e2
   by_cases e3 : h = n
   ·have t3 : (h == n) = true := by simpa using e3
    rw [t1, t2, t3]
    clear e1 e2 e3
    go_enter Try.func89, Try.ntmps89
    go_wp2
    go_ret
    exact ⟨rfl, HB.out.alloc (Nat.le_refl _) _⟩
   have t3 : (h == n) = false := by simpa using e3
   rw [t1, t2, t3]
   clear e1 e2 e3
   go_enter Try.func89, Try.ntmps89
   go_wp2
   go_ret
   exact ⟨rfl, HB.out.alloc (Nat.le_refl _) _⟩
  have t2 : (b == txn) = false := by simpa using e2
  rw [t1, t2]
  clear e1 e2
  go_enter Try.func89, Try.ntmps89
  go_wp2
  go_ret
  exact ⟨rfl, HB.out.alloc (Nat.le_refl _) _⟩
 have t1 : (a == 5) = false := by simpa using e1
 rw [t1]
 clear e1
 go_enter Try.func89, Try.ntmps89
 go_wp2
 go_ret
 exact ⟨rfl, HB.out.alloc (Nat.le_refl _) _⟩
set_option maxHeartbeats 8000000 in
set_option maxRecDepth 100000 in
theorem impl_chain.calls (A0 : Option Addr) (c0 : Nat) (l0 : List S48) (a1 : Int) (r : List Int) (w : World) (hr0 : Kd.C k48 w A0 l0.length l0) (hc0 : l0.length ≤ c0) (h : impl_chain.f l0 a1 = some r) :
 Calls Try.prog 58 #[.slice A0 l0.length c0, .int .i64 a1] w fun e w' => ∃ v0_ : Value, e = .returned (v0_) ∧ Kd.R (Kd.int .i64) 2 w' w.heap.size (fun _ => True) v0_ r ∧ Below w.heap.size w w' := by
 have hu48 := Try.underlying48
 have hn := hr0.2.1
 unfold impl_chain.f at h
 by_cases hl : l0.length < 17592186044416
 ·rw [if_pos hl] at h
  have H := Aside0.mk (Option.some.inj h)
  clear h
  have HL := Aside0.mk hl
  have HR0 := Aside0.mk hr0
  have HC0 := Aside0.mk hc0
  clear hr0 hc0 hl
  have HB := Aside0.mk (Below.refl w.heap.size w)
  go_enter Try.func58, Try.ntmps58
  go_wp2_with (first | ((with_reducible refine gate_dst (N := 9) rfl ?_); refine Kd.R_lit (Kd.int .i64) _ 2 ?hg (N := 9) ?hd (xs := ([] : List Int)) (inner := []) (ok := fun k => k ≠ w.heap.size) (okp := fun _ => False) ?hr ?hp (fun _ hk => hk.elim) (by simp) (Below.refl _ _) (Nat.le_refl _) (by simp) ?_; (case hd => rfl); (case hg => rfl); (case hr => first | (go_simp; done) | (go_simp; rfl)); (case hp => exact (Reps.none _ _)); intro v10 w3 ho4 hb hg_ hnew_; clear hg_ hnew_; have HO := Aside0.mk (Kd.R_lower ho4 (by simp : w.heap.size ≤ _)); have BK := Aside0.mk (blk_below (blk_new w (.cells #[.int .i64 a1] 2 (0, 0))) hb); have HB1 := Aside0.mk (below_step (below_alloc HB.out _) hb); clear HB; have HB := HB1; clear HB1; clear hb ho4))
  go_loopg [5, 6] (l0.length + 1) (fun gg v5 v6 w' => ∃ (m : Nat) (out : List Int), m ≤ l0.length ∧ v6 = .int .i64 ((m : Int) - 1) ∧ Aside0 (m < gg) ∧ Aside0 (out.length + m ≤ l0.length) ∧ Aside0 (impl_chain.go l0 a1 m out = r) ∧ Aside0 (Kd.R (Kd.int .i64) 2 w' w.heap.size (fun k_ => k_ ≠ w.heap.size) v5 out) ∧ Aside0 (Below w.heap.size w w') ∧ Aside0 (w'.heap[w.heap.size]? = some (.cells #[.int .i64 a1] 2 (0, 0))))
  case atStart => exact ⟨l0.length, [], Nat.le_refl _, rfl, ⟨by omega⟩, ⟨by simp⟩, H, HO, HB, BK⟩
  case round =>
   obtain ⟨m, out, hm, rfl, HG, HLn, HA, HO, HB, BK⟩ := hrel
   cases m with
   | zero =>
    have c1 : decide (0 ≤ ((0 : Nat) : Int) - 1) = false := by decide
    have HE : out = r := HA.out
    subst HE
    clear HA H
    go_wp2
    go_ret
    exact ⟨_, rfl, Kd.R_mono HO.out (fun _ _ => trivial), HB.out⟩
   | succ m =>
    have hlt : m < l0.length := hm
    have e1 : (((m + 1 : Nat) : Int) - 1) = (m : Int) := by omega
    rw [e1]
    clear e1
    have g0 : (0 : Int) ≤ (m : Int) := by omega
    have g1 : (m : Int) < (l0.length : Int) := by omega
    have g2 : (0 : Int) ≤ (m : Int) + 1 := by omega
    have g3 : (m : Int) + 1 ≤ (l0.length : Int) := by omega
    have g4 : (m : Int) + 1 ≤ 9223372036854775807 := by omega
    obtain ⟨ad, ea, hx0, hx1, hx2, hx3, hx4, hx5, hx6, hx7⟩ := at_T48 HR0.out (m : Int) g0 g1
    cases ea
    rw [show (m : Int).toNat = m from Int.toNat_natCast m] at hx0 hx1
    replace hx0 := zx HB hx0
    replace hx1 := zx HB hx1
    clear hx2 hx3 hx4 hx5 hx6 hx7
    obtain ⟨i0, hi0, _, hsz, _⟩ := info_parts info48
    have hcut := cut_from (P := Try.prog) 37 48 .i64 Try.underlying37 hi0 8 hsz (some ad) l0.length c0 ((m : Int) + 1) g2 g3
    obtain ⟨A1, hA1⟩ : ∃ A1, A1 = (if c0 = ((m : Int) + 1).toNat then some ad else (some ad : Option Addr).map (·.add (((m : Int) + 1).toNat * 8))) := ⟨_, rfl⟩
    obtain ⟨c1, hc1⟩ : ∃ c1, c1 = c0 - ((m : Int) + 1).toNat := ⟨_, rfl⟩
    obtain ⟨yd, hyd⟩ : ∃ y, y = l0.drop ((m : Int) + 1).toNat := ⟨_, rfl⟩
    have hr := Kd.C_drop (m := ((m : Int) + 1).toNat) (c := c0) HR0.out (by omega) HC0.out
    have hy : yd.length = l0.length - ((m : Int) + 1).toNat := by rw [hyd, List.length_drop]
    rw [← hyd] at hr
    replace hr : Kd.C k48 w A1 yd.length yd := by rw [hA1]; exact hr
    rw [← hy, ← hA1, ← hc1] at hcut
    have HRd := Aside0.mk hr
    have HYD := Aside0.mk (show yd = l0.drop (m + 1) from by rw [hyd]; congr 1)
    clear hr hy hA1 hc1 hyd hi0 hsz
    obtain ⟨X, hX⟩ : ∃ x, x = l0.getD m z48 := ⟨_, rfl⟩
    have hrd : rd_T48 l0 (m : Int) = X := by rw [hX]; rfl
    rw [hrd] at hx0 hx1
    have HXq := Aside0.mk hX
    clear hX hrd H
    cases hud : yd.any (impl_chain.p a1 ((m : Int) + 1)) with
    | true =>
     have HUD := Aside0.mk hud
     clear hud
     by_cases e1 : X.f0 = 2
     ·have t1 : (X.f0 == 2) = true := by simpa using e1
      clear e1
      by_cases e2 : X.f1 = a1
      ·have t2 : (X.f1 == a1) = true := by simpa using e2
       clear e2
       have hh : impl_chain.hit l0 a1 m = false := by unfold impl_chain.hit; rw [← HXq.out, ← HYD.out, t1, t2, HUD.out]; rfl
       have HA2 := Aside0.mk (show impl_chain.go l0 a1 m (out) = r from by have h2 := HA.out; unfold impl_chain.go at h2; rw [hh] at h2; exact h2)
       clear HA hh
       go_wp2_with (first | ((with_reducible refine gate_dst (N := 7) rfl ?_); refine box_event ?hg (N := 7) ?hd (cs := #[.int .i64 0]) (t := 2) ?hr ?_; (case hd => rfl); (case hg => rfl); (case hr => first | (go_simp; done) | (go_simp; rfl)); intro gb hg w16 hbox hb; have HO1 := Aside0.mk (Kd.R_below (Kd.R_elderB HO.out gb (by rw [hg]; exact Nat.le_refl _)) hb); have BK1 := Aside0.mk (blk_below BK.out hb); have BN := Aside0.mk hbox; have HB1 := Aside0.mk (below_step HB.out hb); have GE := Aside0.mk (show w.heap.size < gb from by rw [hg]; exact blk_lt BK.out); have HNA := Aside0.mk (show (ad.add (m * 8)).block ≠ gb from Nat.ne_of_lt (Nat.lt_of_lt_of_le (World.block_lt_of_cell? _ _ hx0) (by rw [hg]; exact Nat.le_refl _))); have hcz : w16.cell? ⟨gb, 0, none⟩ = some (.int .i64 0) := (blk_cell hbox 0).trans rfl; have hfz := blk_frozen hbox 0; replace hx0 := (hb.cell (World.block_lt_of_cell? _ _ hx0)).trans hx0; replace hx1 := (hb.cell (World.block_lt_of_cell? _ _ hx1)).trans hx1; clear HO BK HB hb hbox hg) | (go_at_call 88; have BN2 := Aside0.mk (show (w16.setCell ⟨gb, 0, none⟩ (.int .i64 ((m : Int) + 1))).heap[gb]? = some (.cells #[.int .i64 ((m : Int) + 1)] 2 (0, 0)) from by simpa using blk_set BN.out 0 (.int .i64 ((m : Int) + 1))); have BK2 := Aside0.mk (blk_far BK1.out (p := ⟨gb, 0, none⟩) (Nat.ne_of_lt GE.out) (.int .i64 ((m : Int) + 1))); have HB2 := Aside0.mk (below_set (j := 0) (v := .int .i64 ((m : Int) + 1)) HB1.out (Nat.le_of_lt GE.out)); have HO2 := Aside0.mk (Kd.R_far (p := ⟨gb, 0, none⟩) HO1.out (fun _ hk => hk.2) (.int .i64 ((m : Int) + 1))); have NX0 := Aside0.mk ((World.cell?_of_block (Below.heap_setCell w16 ⟨gb, 0, none⟩ (.int .i64 ((m : Int) + 1)) _ HNA.out)).trans hx0); have NX1 := Aside0.mk ((World.cell?_of_block (a := ⟨(ad.add (m * 8)).block, (ad.add (m * 8)).off + 1, none⟩) (Below.heap_setCell w16 ⟨gb, 0, none⟩ (.int .i64 ((m : Int) + 1)) _ HNA.out)).trans hx1); clear hx0 hx1; refine (slices_ContainsFunc_impl_Rec.calls 89 #[.pointer (some ⟨w.heap.size, 0, none⟩), .pointer (some ⟨gb, 0, none⟩)] (impl_chain.p a1 ((m : Int) + 1)) A1 c1 yd _ (Kd.C_below HRd.out HB2.out) (fun W x _ hb2 => impl_chain.p_calls x a1 _ w.heap.size gb W (Nat.lt_of_lt_of_le (blk_lt BK2.out) hb2.size) (Nat.lt_of_lt_of_le (blk_lt BN2.out) hb2.size) ((blk_cell (blk_below BK2.out hb2) 0).trans rfl) ((blk_cell (blk_below BN2.out hb2) 0).trans rfl)) (enters_of Try.func89 (by kernel_rfl) rfl)).mono ?_; rintro e w17 ⟨rfl, hb'⟩; rw [HUD.out]; have hx0 := (hb'.cell (World.block_lt_of_cell? _ _ NX0.out)).trans NX0.out; have hx1 := (hb'.cell (World.block_lt_of_cell? _ _ NX1.out)).trans NX1.out; have hcz2 : w17.cell? ⟨gb, 0, none⟩ = some (.int .i64 ((m : Int) + 1)) := (blk_cell (blk_below BN2.out hb') 0).trans rfl; have hcz3 : w17.cell? ⟨w.heap.size, 0, none⟩ = some (.int .i64 a1) := (blk_cell (blk_below BK2.out hb') 0).trans rfl; have HO := Aside0.mk (Kd.R_mono (Kd.R_below HO2.out hb') (fun _ hk => hk.1)); have BK := Aside0.mk (blk_below BK2.out hb'); have HB := Aside0.mk (below_step HB2.out hb'); clear hb' HB1 HB2 BK1 BK2 HO1 HO2 BN BN2 hcz hfz) | ((with_reducible refine gate_builtin (b := .append) (xs := #[.tmp 44, .tmp 46]) rfl ?_); at_builtin; refine Kd.R_append (Kd.int .i64) (w0 := w) w.heap.size rfl (.tmp 44) (.tmp 46) 33 2 (.int .i64 0) 8 rfl Try.underlying33 info2 rfl (by decide) (by omega) u5 out ((m : Int) + 1) [.int .i64 ((m : Int) + 1)] (fun k_ => k_ ≠ w.heap.size) (fun _ => False) rfl (by first | (go_simp; done) | (go_simp; rfl)) ?aP (fun _ hk => hk.elim) ?aF ?aO ?aB ?aS ?aL ?_; (case aP => exact rfl); (case aF => exact (fun k_ hk => by have := blk_lt BK.out; simp at hk; omega)); (case aO => exact HO.out); (case aB => exact HB.out); (case aS => exact below_size HB.out); (case aL => have := HLn.out; have := HL.out; omega); intro v1 w19 ho2 hb2 hg2 _; have BK3 := Aside0.mk (blk_grown BK.out hg2 (fun e => HO.out.1 _ e.symm rfl)); have HO3 := Aside0.mk ho2; have HB3 := Aside0.mk hb2; clear ho2 hb2 hg2))
       go_quiet (fail)
       go_wp2
       go_roundg m.succ
       case measure => have := HG.out; omega
       case rel => exact ⟨m, out, Nat.le_of_lt hlt, by first | rfl | go_num, ⟨Nat.lt_succ_self _⟩, ⟨by have := HLn.out; omega⟩, HA2, ⟨by (with_reducible repeat (first | apply Kd.R_drewN)); exact HO.out⟩, ⟨by repeat (first | (with_reducible first | exact HB.out | apply pw_below_drewN) | exact HB.out)⟩, ⟨blk_drewN BK.out _⟩⟩
      have t2 : (X.f1 == a1) = false := by simpa using e2
      clear e2
      have hh : impl_chain.hit l0 a1 m = false := by unfold impl_chain.hit; rw [← HXq.out, ← HYD.out, t1, t2, HUD.out]; rfl
      have HA2 := Aside0.mk (show impl_chain.go l0 a1 m (out) = r from by have h2 := HA.out; unfold impl_chain.go at h2; rw [hh] at h2; exact h2)
      clear HA hh
      go_wp2_with (first | ((with_reducible refine gate_dst (N := 7) rfl ?_); refine box_event ?hg (N := 7) ?hd (cs := #[.int .i64 0]) (t := 2) ?hr ?_; (case hd => rfl); (case hg => rfl); (case hr => first | (go_simp; done) | (go_simp; rfl)); intro gb hg w16 hbox hb; have HO1 := Aside0.mk (Kd.R_below (Kd.R_elderB HO.out gb (by rw [hg]; exact Nat.le_refl _)) hb); have BK1 := Aside0.mk (blk_below BK.out hb); have BN := Aside0.mk hbox; have HB1 := Aside0.mk (below_step HB.out hb); have GE := Aside0.mk (show w.heap.size < gb from by rw [hg]; exact blk_lt BK.out); have HNA := Aside0.mk (show (ad.add (m * 8)).block ≠ gb from Nat.ne_of_lt (Nat.lt_of_lt_of_le (World.block_lt_of_cell? _ _ hx0) (by rw [hg]; exact Nat.le_refl _))); have hcz : w16.cell? ⟨gb, 0, none⟩ = some (.int .i64 0) := (blk_cell hbox 0).trans rfl; have hfz := blk_frozen hbox 0; replace hx0 := (hb.cell (World.block_lt_of_cell? _ _ hx0)).trans hx0; replace hx1 := (hb.cell (World.block_lt_of_cell? _ _ hx1)).trans hx1; clear HO BK HB hb hbox hg) | (go_at_call 88; have BN2 := Aside0.mk (show (w16.setCell ⟨gb, 0, none⟩ (.int .i64 ((m : Int) + 1))).heap[gb]? = some (.cells #[.int .i64 ((m : Int) + 1)] 2 (0, 0)) from by simpa using blk_set BN.out 0 (.int .i64 ((m : Int) + 1))); have BK2 := Aside0.mk (blk_far BK1.out (p := ⟨gb, 0, none⟩) (Nat.ne_of_lt GE.out) (.int .i64 ((m : Int) + 1))); have HB2 := Aside0.mk (below_set (j := 0) (v := .int .i64 ((m : Int) + 1)) HB1.out (Nat.le_of_lt GE.out)); have HO2 := Aside0.mk (Kd.R_far (p := ⟨gb, 0, none⟩) HO1.out (fun _ hk => hk.2) (.int .i64 ((m : Int) + 1))); have NX0 := Aside0.mk ((World.cell?_of_block (Below.heap_setCell w16 ⟨gb, 0, none⟩ (.int .i64 ((m : Int) + 1)) _ HNA.out)).trans hx0); have NX1 := Aside0.mk ((World.cell?_of_block (a := ⟨(ad.add (m * 8)).block, (ad.add (m * 8)).off + 1, none⟩) (Below.heap_setCell w16 ⟨gb, 0, none⟩ (.int .i64 ((m : Int) + 1)) _ HNA.out)).trans hx1); clear hx0 hx1; refine (slices_ContainsFunc_impl_Rec.calls 89 #[.pointer (some ⟨w.heap.size, 0, none⟩), .pointer (some ⟨gb, 0, none⟩)] (impl_chain.p a1 ((m : Int) + 1)) A1 c1 yd _ (Kd.C_below HRd.out HB2.out) (fun W x _ hb2 => impl_chain.p_calls x a1 _ w.heap.size gb W (Nat.lt_of_lt_of_le (blk_lt BK2.out) hb2.size) (Nat.lt_of_lt_of_le (blk_lt BN2.out) hb2.size) ((blk_cell (blk_below BK2.out hb2) 0).trans rfl) ((blk_cell (blk_below BN2.out hb2) 0).trans rfl)) (enters_of Try.func89 (by kernel_rfl) rfl)).mono ?_; rintro e w17 ⟨rfl, hb'⟩; rw [HUD.out]; have hx0 := (hb'.cell (World.block_lt_of_cell? _ _ NX0.out)).trans NX0.out; have hx1 := (hb'.cell (World.block_lt_of_cell? _ _ NX1.out)).trans NX1.out; have hcz2 : w17.cell? ⟨gb, 0, none⟩ = some (.int .i64 ((m : Int) + 1)) := (blk_cell (blk_below BN2.out hb') 0).trans rfl; have hcz3 : w17.cell? ⟨w.heap.size, 0, none⟩ = some (.int .i64 a1) := (blk_cell (blk_below BK2.out hb') 0).trans rfl; have HO := Aside0.mk (Kd.R_mono (Kd.R_below HO2.out hb') (fun _ hk => hk.1)); have BK := Aside0.mk (blk_below BK2.out hb'); have HB := Aside0.mk (below_step HB2.out hb'); clear hb' HB1 HB2 BK1 BK2 HO1 HO2 BN BN2 hcz hfz) | ((with_reducible refine gate_builtin (b := .append) (xs := #[.tmp 44, .tmp 46]) rfl ?_); at_builtin; refine Kd.R_append (Kd.int .i64) (w0 := w) w.heap.size rfl (.tmp 44) (.tmp 46) 33 2 (.int .i64 0) 8 rfl Try.underlying33 info2 rfl (by decide) (by omega) u5 out ((m : Int) + 1) [.int .i64 ((m : Int) + 1)] (fun k_ => k_ ≠ w.heap.size) (fun _ => False) rfl (by first | (go_simp; done) | (go_simp; rfl)) ?aP (fun _ hk => hk.elim) ?aF ?aO ?aB ?aS ?aL ?_; (case aP => exact rfl); (case aF => exact (fun k_ hk => by have := blk_lt BK.out; simp at hk; omega)); (case aO => exact HO.out); (case aB => exact HB.out); (case aS => exact below_size HB.out); (case aL => have := HLn.out; have := HL.out; omega); intro v1 w19 ho2 hb2 hg2 _; have BK3 := Aside0.mk (blk_grown BK.out hg2 (fun e => HO.out.1 _ e.symm rfl)); have HO3 := Aside0.mk ho2; have HB3 := Aside0.mk hb2; clear ho2 hb2 hg2))
      go_quiet (fail)
      go_wp2
      go_roundg m.succ
      case measure => have := HG.out; omega
      case rel => exact ⟨m, out, Nat.le_of_lt hlt, by first | rfl | go_num, ⟨Nat.lt_succ_self _⟩, ⟨by have := HLn.out; omega⟩, HA2, ⟨by (with_reducible repeat (first | apply Kd.R_drewN)); exact HO.out⟩, ⟨by repeat (first | (with_reducible first | exact HB.out | apply pw_below_drewN) | exact HB.out)⟩, ⟨blk_drewN BK.out _⟩⟩
     have t1 : (X.f0 == 2) = false := by simpa using e1
     clear e1
     by_cases e2 : X.f1 = a1
     ·have t2 : (X.f1 == a1) = true := by simpa using e2
      clear e2
      have hh : impl_chain.hit l0 a1 m = false := by unfold impl_chain.hit; rw [← HXq.out, ← HYD.out, t1, t2, HUD.out]; rfl
      have HA2 := Aside0.mk (show impl_chain.go l0 a1 m (out) = r from by have h2 := HA.out; unfold impl_chain.go at h2; rw [hh] at h2; exact h2)
      clear HA hh
      go_wp2_with (first | ((with_reducible refine gate_dst (N := 7) rfl ?_); refine box_event ?hg (N := 7) ?hd (cs := #[.int .i64 0]) (t := 2) ?hr ?_; (case hd => rfl); (case hg => rfl); (case hr => first | (go_simp; done) | (go_simp; rfl)); intro gb hg w16 hbox hb; have HO1 := Aside0.mk (Kd.R_below (Kd.R_elderB HO.out gb (by rw [hg]; exact Nat.le_refl _)) hb); have BK1 := Aside0.mk (blk_below BK.out hb); have BN := Aside0.mk hbox; have HB1 := Aside0.mk (below_step HB.out hb); have GE := Aside0.mk (show w.heap.size < gb from by rw [hg]; exact blk_lt BK.out); have HNA := Aside0.mk (show (ad.add (m * 8)).block ≠ gb from Nat.ne_of_lt (Nat.lt_of_lt_of_le (World.block_lt_of_cell? _ _ hx0) (by rw [hg]; exact Nat.le_refl _))); have hcz : w16.cell? ⟨gb, 0, none⟩ = some (.int .i64 0) := (blk_cell hbox 0).trans rfl; have hfz := blk_frozen hbox 0; replace hx0 := (hb.cell (World.block_lt_of_cell? _ _ hx0)).trans hx0; replace hx1 := (hb.cell (World.block_lt_of_cell? _ _ hx1)).trans hx1; clear HO BK HB hb hbox hg) | (go_at_call 88; have BN2 := Aside0.mk (show (w16.setCell ⟨gb, 0, none⟩ (.int .i64 ((m : Int) + 1))).heap[gb]? = some (.cells #[.int .i64 ((m : Int) + 1)] 2 (0, 0)) from by simpa using blk_set BN.out 0 (.int .i64 ((m : Int) + 1))); have BK2 := Aside0.mk (blk_far BK1.out (p := ⟨gb, 0, none⟩) (Nat.ne_of_lt GE.out) (.int .i64 ((m : Int) + 1))); have HB2 := Aside0.mk (below_set (j := 0) (v := .int .i64 ((m : Int) + 1)) HB1.out (Nat.le_of_lt GE.out)); have HO2 := Aside0.mk (Kd.R_far (p := ⟨gb, 0, none⟩) HO1.out (fun _ hk => hk.2) (.int .i64 ((m : Int) + 1))); have NX0 := Aside0.mk ((World.cell?_of_block (Below.heap_setCell w16 ⟨gb, 0, none⟩ (.int .i64 ((m : Int) + 1)) _ HNA.out)).trans hx0); have NX1 := Aside0.mk ((World.cell?_of_block (a := ⟨(ad.add (m * 8)).block, (ad.add (m * 8)).off + 1, none⟩) (Below.heap_setCell w16 ⟨gb, 0, none⟩ (.int .i64 ((m : Int) + 1)) _ HNA.out)).trans hx1); clear hx0 hx1; refine (slices_ContainsFunc_impl_Rec.calls 89 #[.pointer (some ⟨w.heap.size, 0, none⟩), .pointer (some ⟨gb, 0, none⟩)] (impl_chain.p a1 ((m : Int) + 1)) A1 c1 yd _ (Kd.C_below HRd.out HB2.out) (fun W x _ hb2 => impl_chain.p_calls x a1 _ w.heap.size gb W (Nat.lt_of_lt_of_le (blk_lt BK2.out) hb2.size) (Nat.lt_of_lt_of_le (blk_lt BN2.out) hb2.size) ((blk_cell (blk_below BK2.out hb2) 0).trans rfl) ((blk_cell (blk_below BN2.out hb2) 0).trans rfl)) (enters_of Try.func89 (by kernel_rfl) rfl)).mono ?_; rintro e w17 ⟨rfl, hb'⟩; rw [HUD.out]; have hx0 := (hb'.cell (World.block_lt_of_cell? _ _ NX0.out)).trans NX0.out; have hx1 := (hb'.cell (World.block_lt_of_cell? _ _ NX1.out)).trans NX1.out; have hcz2 : w17.cell? ⟨gb, 0, none⟩ = some (.int .i64 ((m : Int) + 1)) := (blk_cell (blk_below BN2.out hb') 0).trans rfl; have hcz3 : w17.cell? ⟨w.heap.size, 0, none⟩ = some (.int .i64 a1) := (blk_cell (blk_below BK2.out hb') 0).trans rfl; have HO := Aside0.mk (Kd.R_mono (Kd.R_below HO2.out hb') (fun _ hk => hk.1)); have BK := Aside0.mk (blk_below BK2.out hb'); have HB := Aside0.mk (below_step HB2.out hb'); clear hb' HB1 HB2 BK1 BK2 HO1 HO2 BN BN2 hcz hfz) | ((with_reducible refine gate_builtin (b := .append) (xs := #[.tmp 44, .tmp 46]) rfl ?_); at_builtin; refine Kd.R_append (Kd.int .i64) (w0 := w) w.heap.size rfl (.tmp 44) (.tmp 46) 33 2 (.int .i64 0) 8 rfl Try.underlying33 info2 rfl (by decide) (by omega) u5 out ((m : Int) + 1) [.int .i64 ((m : Int) + 1)] (fun k_ => k_ ≠ w.heap.size) (fun _ => False) rfl (by first | (go_simp; done) | (go_simp; rfl)) ?aP (fun _ hk => hk.elim) ?aF ?aO ?aB ?aS ?aL ?_; (case aP => exact rfl); (case aF => exact (fun k_ hk => by have := blk_lt BK.out; simp at hk; omega)); (case aO => exact HO.out); (case aB => exact HB.out); (case aS => exact below_size HB.out); (case aL => have := HLn.out; have := HL.out; omega); intro v1 w19 ho2 hb2 hg2 _; have BK3 := Aside0.mk (blk_grown BK.out hg2 (fun e => HO.out.1 _ e.symm rfl)); have HO3 := Aside0.mk ho2; have HB3 := Aside0.mk hb2; clear ho2 hb2 hg2))
      go_quiet (fail)
      go_wp2
      go_roundg m.succ
      case measure => have := HG.out; omega
      case rel => exact ⟨m, out, Nat.le_of_lt hlt, by first | rfl | go_num, ⟨Nat.lt_succ_self _⟩, ⟨by have := HLn.out; omega⟩, HA2, ⟨by (with_reducible repeat (first | apply Kd.R_drewN)); exact HO.out⟩, ⟨by repeat (first | (with_reducible first | exact HB.out | apply pw_below_drewN) | exact HB.out)⟩, ⟨blk_drewN BK.out _⟩⟩
     have t2 : (X.f1 == a1) = false := by simpa using e2
     clear e2
     have hh : impl_chain.hit l0 a1 m = false := by unfold impl_chain.hit; rw [← HXq.out, ← HYD.out, t1, t2, HUD.out]; rfl
     have HA2 := Aside0.mk (show impl_chain.go l0 a1 m (out) = r from by have h2 := HA.out; unfold impl_chain.go at h2; rw [hh] at h2; exact h2)
     clear HA hh
     go_wp2_with (first | ((with_reducible refine gate_dst (N := 7) rfl ?_); refine box_event ?hg (N := 7) ?hd (cs := #[.int .i64 0]) (t := 2) ?hr ?_; (case hd => rfl); (case hg => rfl); (case hr => first | (go_simp; done) | (go_simp; rfl)); intro gb hg w16 hbox hb; have HO1 := Aside0.mk (Kd.R_below (Kd.R_elderB HO.out gb (by rw [hg]; exact Nat.le_refl _)) hb); have BK1 := Aside0.mk (blk_below BK.out hb); have BN := Aside0.mk hbox; have HB1 := Aside0.mk (below_step HB.out hb); have GE := Aside0.mk (show w.heap.size < gb from by rw [hg]; exact blk_lt BK.out); have HNA := Aside0.mk (show (ad.add (m * 8)).block ≠ gb from Nat.ne_of_lt (Nat.lt_of_lt_of_le (World.block_lt_of_cell? _ _ hx0) (by rw [hg]; exact Nat.le_refl _))); have hcz : w16.cell? ⟨gb, 0, none⟩ = some (.int .i64 0) := (blk_cell hbox 0).trans rfl; have hfz := blk_frozen hbox 0; replace hx0 := (hb.cell (World.block_lt_of_cell? _ _ hx0)).trans hx0; replace hx1 := (hb.cell (World.block_lt_of_cell? _ _ hx1)).trans hx1; clear HO BK HB hb hbox hg) | (go_at_call 88; have BN2 := Aside0.mk (show (w16.setCell ⟨gb, 0, none⟩ (.int .i64 ((m : Int) + 1))).heap[gb]? = some (.cells #[.int .i64 ((m : Int) + 1)] 2 (0, 0)) from by simpa using blk_set BN.out 0 (.int .i64 ((m : Int) + 1))); have BK2 := Aside0.mk (blk_far BK1.out (p := ⟨gb, 0, none⟩) (Nat.ne_of_lt GE.out) (.int .i64 ((m : Int) + 1))); have HB2 := Aside0.mk (below_set (j := 0) (v := .int .i64 ((m : Int) + 1)) HB1.out (Nat.le_of_lt GE.out)); have HO2 := Aside0.mk (Kd.R_far (p := ⟨gb, 0, none⟩) HO1.out (fun _ hk => hk.2) (.int .i64 ((m : Int) + 1))); have NX0 := Aside0.mk ((World.cell?_of_block (Below.heap_setCell w16 ⟨gb, 0, none⟩ (.int .i64 ((m : Int) + 1)) _ HNA.out)).trans hx0); have NX1 := Aside0.mk ((World.cell?_of_block (a := ⟨(ad.add (m * 8)).block, (ad.add (m * 8)).off + 1, none⟩) (Below.heap_setCell w16 ⟨gb, 0, none⟩ (.int .i64 ((m : Int) + 1)) _ HNA.out)).trans hx1); clear hx0 hx1; refine (slices_ContainsFunc_impl_Rec.calls 89 #[.pointer (some ⟨w.heap.size, 0, none⟩), .pointer (some ⟨gb, 0, none⟩)] (impl_chain.p a1 ((m : Int) + 1)) A1 c1 yd _ (Kd.C_below HRd.out HB2.out) (fun W x _ hb2 => impl_chain.p_calls x a1 _ w.heap.size gb W (Nat.lt_of_lt_of_le (blk_lt BK2.out) hb2.size) (Nat.lt_of_lt_of_le (blk_lt BN2.out) hb2.size) ((blk_cell (blk_below BK2.out hb2) 0).trans rfl) ((blk_cell (blk_below BN2.out hb2) 0).trans rfl)) (enters_of Try.func89 (by kernel_rfl) rfl)).mono ?_; rintro e w17 ⟨rfl, hb'⟩; rw [HUD.out]; have hx0 := (hb'.cell (World.block_lt_of_cell? _ _ NX0.out)).trans NX0.out; have hx1 := (hb'.cell (World.block_lt_of_cell? _ _ NX1.out)).trans NX1.out; have hcz2 : w17.cell? ⟨gb, 0, none⟩ = some (.int .i64 ((m : Int) + 1)) := (blk_cell (blk_below BN2.out hb') 0).trans rfl; have hcz3 : w17.cell? ⟨w.heap.size, 0, none⟩ = some (.int .i64 a1) := (blk_cell (blk_below BK2.out hb') 0).trans rfl; have HO := Aside0.mk (Kd.R_mono (Kd.R_below HO2.out hb') (fun _ hk => hk.1)); have BK := Aside0.mk (blk_below BK2.out hb'); have HB := Aside0.mk (below_step HB2.out hb'); clear hb' HB1 HB2 BK1 BK2 HO1 HO2 BN BN2 hcz hfz) | ((with_reducible refine gate_builtin (b := .append) (xs := #[.tmp 44, .tmp 46]) rfl ?_); at_builtin; refine Kd.R_append (Kd.int .i64) (w0 := w) w.heap.size rfl (.tmp 44) (.tmp 46) 33 2 (.int .i64 0) 8 rfl Try.underlying33 info2 rfl (by decide) (by omega) u5 out ((m : Int) + 1) [.int .i64 ((m : Int) + 1)] (fun k_ => k_ ≠ w.heap.size) (fun _ => False) rfl (by first | (go_simp; done) | (go_simp; rfl)) ?aP (fun _ hk => hk.elim) ?aF ?aO ?aB ?aS ?aL ?_; (case aP => exact rfl); (case aF => exact (fun k_ hk => by have := blk_lt BK.out; simp at hk; omega)); (case aO => exact HO.out); (case aB => exact HB.out); (case aS => exact below_size HB.out); (case aL => have := HLn.out; have := HL.out; omega); intro v1 w19 ho2 hb2 hg2 _; have BK3 := Aside0.mk (blk_grown BK.out hg2 (fun e => HO.out.1 _ e.symm rfl)); have HO3 := Aside0.mk ho2; have HB3 := Aside0.mk hb2; clear ho2 hb2 hg2))
     go_quiet (fail)
     go_wp2
     go_roundg m.succ
     case measure => have := HG.out; omega
     case rel => exact ⟨m, out, Nat.le_of_lt hlt, by first | rfl | go_num, ⟨Nat.lt_succ_self _⟩, ⟨by have := HLn.out; omega⟩, HA2, ⟨by (with_reducible repeat (first | apply Kd.R_drewN)); exact HO.out⟩, ⟨by repeat (first | (with_reducible first | exact HB.out | apply pw_below_drewN) | exact HB.out)⟩, ⟨blk_drewN BK.out _⟩⟩
    | false =>
     have HUD := Aside0.mk hud
     clear hud
     by_cases e1 : X.f0 = 2
     ·have t1 : (X.f0 == 2) = true := by simpa using e1
      clear e1
      by_cases e2 : X.f1 = a1
      ·have t2 : (X.f1 == a1) = true := by simpa using e2
       clear e2
       have hh : impl_chain.hit l0 a1 m = true := by unfold impl_chain.hit; rw [← HXq.out, ← HYD.out, t1, t2, HUD.out]; rfl
       have HA2 := Aside0.mk (show impl_chain.go l0 a1 m (out ++ [(m : Int) + 1]) = r from by have h2 := HA.out; unfold impl_chain.go at h2; rw [hh] at h2; exact h2)
       clear HA hh
       go_wp2_with (first | ((with_reducible refine gate_dst (N := 7) rfl ?_); refine box_event ?hg (N := 7) ?hd (cs := #[.int .i64 0]) (t := 2) ?hr ?_; (case hd => rfl); (case hg => rfl); (case hr => first | (go_simp; done) | (go_simp; rfl)); intro gb hg w16 hbox hb; have HO1 := Aside0.mk (Kd.R_below (Kd.R_elderB HO.out gb (by rw [hg]; exact Nat.le_refl _)) hb); have BK1 := Aside0.mk (blk_below BK.out hb); have BN := Aside0.mk hbox; have HB1 := Aside0.mk (below_step HB.out hb); have GE := Aside0.mk (show w.heap.size < gb from by rw [hg]; exact blk_lt BK.out); have HNA := Aside0.mk (show (ad.add (m * 8)).block ≠ gb from Nat.ne_of_lt (Nat.lt_of_lt_of_le (World.block_lt_of_cell? _ _ hx0) (by rw [hg]; exact Nat.le_refl _))); have hcz : w16.cell? ⟨gb, 0, none⟩ = some (.int .i64 0) := (blk_cell hbox 0).trans rfl; have hfz := blk_frozen hbox 0; replace hx0 := (hb.cell (World.block_lt_of_cell? _ _ hx0)).trans hx0; replace hx1 := (hb.cell (World.block_lt_of_cell? _ _ hx1)).trans hx1; clear HO BK HB hb hbox hg) | (go_at_call 88; have BN2 := Aside0.mk (show (w16.setCell ⟨gb, 0, none⟩ (.int .i64 ((m : Int) + 1))).heap[gb]? = some (.cells #[.int .i64 ((m : Int) + 1)] 2 (0, 0)) from by simpa using blk_set BN.out 0 (.int .i64 ((m : Int) + 1))); have BK2 := Aside0.mk (blk_far BK1.out (p := ⟨gb, 0, none⟩) (Nat.ne_of_lt GE.out) (.int .i64 ((m : Int) + 1))); have HB2 := Aside0.mk (below_set (j := 0) (v := .int .i64 ((m : Int) + 1)) HB1.out (Nat.le_of_lt GE.out)); have HO2 := Aside0.mk (Kd.R_far (p := ⟨gb, 0, none⟩) HO1.out (fun _ hk => hk.2) (.int .i64 ((m : Int) + 1))); have NX0 := Aside0.mk ((World.cell?_of_block (Below.heap_setCell w16 ⟨gb, 0, none⟩ (.int .i64 ((m : Int) + 1)) _ HNA.out)).trans hx0); have NX1 := Aside0.mk ((World.cell?_of_block (a := ⟨(ad.add (m * 8)).block, (ad.add (m * 8)).off + 1, none⟩) (Below.heap_setCell w16 ⟨gb, 0, none⟩ (.int .i64 ((m : Int) + 1)) _ HNA.out)).trans hx1); clear hx0 hx1; refine (slices_ContainsFunc_impl_Rec.calls 89 #[.pointer (some ⟨w.heap.size, 0, none⟩), .pointer (some ⟨gb, 0, none⟩)] (impl_chain.p a1 ((m : Int) + 1)) A1 c1 yd _ (Kd.C_below HRd.out HB2.out) (fun W x _ hb2 => impl_chain.p_calls x a1 _ w.heap.size gb W (Nat.lt_of_lt_of_le (blk_lt BK2.out) hb2.size) (Nat.lt_of_lt_of_le (blk_lt BN2.out) hb2.size) ((blk_cell (blk_below BK2.out hb2) 0).trans rfl) ((blk_cell (blk_below BN2.out hb2) 0).trans rfl)) (enters_of Try.func89 (by kernel_rfl) rfl)).mono ?_; rintro e w17 ⟨rfl, hb'⟩; rw [HUD.out]; have hx0 := (hb'.cell (World.block_lt_of_cell? _ _ NX0.out)).trans NX0.out; have hx1 := (hb'.cell (World.block_lt_of_cell? _ _ NX1.out)).trans NX1.out; have hcz2 : w17.cell? ⟨gb, 0, none⟩ = some (.int .i64 ((m : Int) + 1)) := (blk_cell (blk_below BN2.out hb') 0).trans rfl; have hcz3 : w17.cell? ⟨w.heap.size, 0, none⟩ = some (.int .i64 a1) := (blk_cell (blk_below BK2.out hb') 0).trans rfl; have HO := Aside0.mk (Kd.R_mono (Kd.R_below HO2.out hb') (fun _ hk => hk.1)); have BK := Aside0.mk (blk_below BK2.out hb'); have HB := Aside0.mk (below_step HB2.out hb'); clear hb' HB1 HB2 BK1 BK2 HO1 HO2 BN BN2 hcz hfz) | ((with_reducible refine gate_builtin (b := .append) (xs := #[.tmp 44, .tmp 46]) rfl ?_); at_builtin; refine Kd.R_append (Kd.int .i64) (w0 := w) w.heap.size rfl (.tmp 44) (.tmp 46) 33 2 (.int .i64 0) 8 rfl Try.underlying33 info2 rfl (by decide) (by omega) u5 out ((m : Int) + 1) [.int .i64 ((m : Int) + 1)] (fun k_ => k_ ≠ w.heap.size) (fun _ => False) rfl (by first | (go_simp; done) | (go_simp; rfl)) ?aP (fun _ hk => hk.elim) ?aF ?aO ?aB ?aS ?aL ?_; (case aP => exact rfl); (case aF => exact (fun k_ hk => by have := blk_lt BK.out; simp at hk; omega)); (case aO => exact HO.out); (case aB => exact HB.out); (case aS => exact below_size HB.out); (case aL => have := HLn.out; have := HL.out; omega); intro v1 w19 ho2 hb2 hg2 _; have BK3 := Aside0.mk (blk_grown BK.out hg2 (fun e => HO.out.1 _ e.symm rfl)); have HO3 := Aside0.mk ho2; have HB3 := Aside0.mk hb2; clear ho2 hb2 hg2))
       go_quiet (fail)
       go_wp2_with (((with_reducible refine gate_builtin (b := .append) (xs := #[.tmp 44, .tmp 46]) rfl ?_); at_builtin; refine Kd.R_append (Kd.int .i64) (w0 := w) w.heap.size rfl (.tmp 44) (.tmp 46) 33 2 (.int .i64 0) 8 rfl Try.underlying33 info2 rfl (by decide) (by omega) u5 out ((m : Int) + 1) [.int .i64 ((m : Int) + 1)] (fun k_ => k_ ≠ w.heap.size) (fun _ => False) rfl (by first | (go_simp; done) | (go_simp; rfl)) ?aP (fun _ hk => hk.elim) ?aF ?aO ?aB ?aS ?aL ?_; (case aP => exact rfl); (case aF => exact (fun k_ hk => by have := blk_lt BK.out; have hk2 : w17.heap.size ≤ k_ := hk; omega)); (case aO => ((with_reducible repeat (first | apply Kd.R_alloc | apply Kd.R_drewN | apply Kd.R_drew)); exact HO.out)); (case aB => exact zb); (case aS => exact (below_size HB.out : w.heap.size ≤ w17.heap.size)); (case aL => have := HLn.out; have := HL.out; omega); intro v1 w19 ho2 hb2 hg2 _; have BK3 := Aside0.mk (blk_grown (blk_drewN BK.out _) hg2 (fun e => HO.out.1 _ e.symm rfl)); have HO3 := Aside0.mk ho2; have HB3 := Aside0.mk hb2; clear ho2 hb2 hg2))
       go_roundg m.succ
       case measure => have := HG.out; omega
       case rel => exact ⟨m, (out ++ [(m : Int) + 1]), Nat.le_of_lt hlt, by first | rfl | go_num, ⟨Nat.lt_succ_self _⟩, ⟨by have := HLn.out; simp; omega⟩, HA2, HO3, HB3, BK3⟩
      have t2 : (X.f1 == a1) = false := by simpa using e2
      clear e2
      have hh : impl_chain.hit l0 a1 m = false := by unfold impl_chain.hit; rw [← HXq.out, ← HYD.out, t1, t2, HUD.out]; rfl
      have HA2 := Aside0.mk (show impl_chain.go l0 a1 m (out) = r from by have h2 := HA.out; unfold impl_chain.go at h2; rw [hh] at h2; exact h2)
      clear HA hh
      go_wp2_with (first | ((with_reducible refine gate_dst (N := 7) rfl ?_); refine box_event ?hg (N := 7) ?hd (cs := #[.int .i64 0]) (t := 2) ?hr ?_; (case hd => rfl); (case hg => rfl); (case hr => first | (go_simp; done) | (go_simp; rfl)); intro gb hg w16 hbox hb; have HO1 := Aside0.mk (Kd.R_below (Kd.R_elderB HO.out gb (by rw [hg]; exact Nat.le_refl _)) hb); have BK1 := Aside0.mk (blk_below BK.out hb); have BN := Aside0.mk hbox; have HB1 := Aside0.mk (below_step HB.out hb); have GE := Aside0.mk (show w.heap.size < gb from by rw [hg]; exact blk_lt BK.out); have HNA := Aside0.mk (show (ad.add (m * 8)).block ≠ gb from Nat.ne_of_lt (Nat.lt_of_lt_of_le (World.block_lt_of_cell? _ _ hx0) (by rw [hg]; exact Nat.le_refl _))); have hcz : w16.cell? ⟨gb, 0, none⟩ = some (.int .i64 0) := (blk_cell hbox 0).trans rfl; have hfz := blk_frozen hbox 0; replace hx0 := (hb.cell (World.block_lt_of_cell? _ _ hx0)).trans hx0; replace hx1 := (hb.cell (World.block_lt_of_cell? _ _ hx1)).trans hx1; clear HO BK HB hb hbox hg) | (go_at_call 88; have BN2 := Aside0.mk (show (w16.setCell ⟨gb, 0, none⟩ (.int .i64 ((m : Int) + 1))).heap[gb]? = some (.cells #[.int .i64 ((m : Int) + 1)] 2 (0, 0)) from by simpa using blk_set BN.out 0 (.int .i64 ((m : Int) + 1))); have BK2 := Aside0.mk (blk_far BK1.out (p := ⟨gb, 0, none⟩) (Nat.ne_of_lt GE.out) (.int .i64 ((m : Int) + 1))); have HB2 := Aside0.mk (below_set (j := 0) (v := .int .i64 ((m : Int) + 1)) HB1.out (Nat.le_of_lt GE.out)); have HO2 := Aside0.mk (Kd.R_far (p := ⟨gb, 0, none⟩) HO1.out (fun _ hk => hk.2) (.int .i64 ((m : Int) + 1))); have NX0 := Aside0.mk ((World.cell?_of_block (Below.heap_setCell w16 ⟨gb, 0, none⟩ (.int .i64 ((m : Int) + 1)) _ HNA.out)).trans hx0); have NX1 := Aside0.mk ((World.cell?_of_block (a := ⟨(ad.add (m * 8)).block, (ad.add (m * 8)).off + 1, none⟩) (Below.heap_setCell w16 ⟨gb, 0, none⟩ (.int .i64 ((m : Int) + 1)) _ HNA.out)).trans hx1); clear hx0 hx1; refine (slices_ContainsFunc_impl_Rec.calls 89 #[.pointer (some ⟨w.heap.size, 0, none⟩), .pointer (some ⟨gb, 0, none⟩)] (impl_chain.p a1 ((m : Int) + 1)) A1 c1 yd _ (Kd.C_below HRd.out HB2.out) (fun W x _ hb2 => impl_chain.p_calls x a1 _ w.heap.size gb W (Nat.lt_of_lt_of_le (blk_lt BK2.out) hb2.size) (Nat.lt_of_lt_of_le (blk_lt BN2.out) hb2.size) ((blk_cell (blk_below BK2.out hb2) 0).trans rfl) ((blk_cell (blk_below BN2.out hb2) 0).trans rfl)) (enters_of Try.func89 (by kernel_rfl) rfl)).mono ?_; rintro e w17 ⟨rfl, hb'⟩; rw [HUD.out]; have hx0 := (hb'.cell (World.block_lt_of_cell? _ _ NX0.out)).trans NX0.out; have hx1 := (hb'.cell (World.block_lt_of_cell? _ _ NX1.out)).trans NX1.out; have hcz2 : w17.cell? ⟨gb, 0, none⟩ = some (.int .i64 ((m : Int) + 1)) := (blk_cell (blk_below BN2.out hb') 0).trans rfl; have hcz3 : w17.cell? ⟨w.heap.size, 0, none⟩ = some (.int .i64 a1) := (blk_cell (blk_below BK2.out hb') 0).trans rfl; have HO := Aside0.mk (Kd.R_mono (Kd.R_below HO2.out hb') (fun _ hk => hk.1)); have BK := Aside0.mk (blk_below BK2.out hb'); have HB := Aside0.mk (below_step HB2.out hb'); clear hb' HB1 HB2 BK1 BK2 HO1 HO2 BN BN2 hcz hfz) | ((with_reducible refine gate_builtin (b := .append) (xs := #[.tmp 44, .tmp 46]) rfl ?_); at_builtin; refine Kd.R_append (Kd.int .i64) (w0 := w) w.heap.size rfl (.tmp 44) (.tmp 46) 33 2 (.int .i64 0) 8 rfl Try.underlying33 info2 rfl (by decide) (by omega) u5 out ((m : Int) + 1) [.int .i64 ((m : Int) + 1)] (fun k_ => k_ ≠ w.heap.size) (fun _ => False) rfl (by first | (go_simp; done) | (go_simp; rfl)) ?aP (fun _ hk => hk.elim) ?aF ?aO ?aB ?aS ?aL ?_; (case aP => exact rfl); (case aF => exact (fun k_ hk => by have := blk_lt BK.out; simp at hk; omega)); (case aO => exact HO.out); (case aB => exact HB.out); (case aS => exact below_size HB.out); (case aL => have := HLn.out; have := HL.out; omega); intro v1 w19 ho2 hb2 hg2 _; have BK3 := Aside0.mk (blk_grown BK.out hg2 (fun e => HO.out.1 _ e.symm rfl)); have HO3 := Aside0.mk ho2; have HB3 := Aside0.mk hb2; clear ho2 hb2 hg2))
      go_quiet (fail)
      go_wp2
      go_roundg m.succ
      case measure => have := HG.out; omega
      case rel => exact ⟨m, out, Nat.le_of_lt hlt, by first | rfl | go_num, ⟨Nat.lt_succ_self _⟩, ⟨by have := HLn.out; omega⟩, HA2, ⟨by (with_reducible repeat (first | apply Kd.R_drewN)); exact HO.out⟩, ⟨by repeat (first | (with_reducible first | exact HB.out | apply pw_below_drewN) | exact HB.out)⟩, ⟨blk_drewN BK.out _⟩⟩
     have t1 : (X.f0 == 2) = false := by simpa using e1
     clear e1
     by_cases e2 : X.f1 = a1
     ·have t2 : (X.f1 == a1) = true := by simpa using e2
      clear e2
      have hh : impl_chain.hit l0 a1 m = false := by unfold impl_chain.hit; rw [← HXq.out, ← HYD.out, t1, t2, HUD.out]; rfl
      have HA2 := Aside0.mk (show impl_chain.go l0 a1 m (out) = r from by have h2 := HA.out; unfold impl_chain.go at h2; rw [hh] at h2; exact h2)
      clear HA hh
      go_wp2_with (first | ((with_reducible refine gate_dst (N := 7) rfl ?_); refine box_event ?hg (N := 7) ?hd (cs := #[.int .i64 0]) (t := 2) ?hr ?_; (case hd => rfl); (case hg => rfl); (case hr => first | (go_simp; done) | (go_simp; rfl)); intro gb hg w16 hbox hb; have HO1 := Aside0.mk (Kd.R_below (Kd.R_elderB HO.out gb (by rw [hg]; exact Nat.le_refl _)) hb); have BK1 := Aside0.mk (blk_below BK.out hb); have BN := Aside0.mk hbox; have HB1 := Aside0.mk (below_step HB.out hb); have GE := Aside0.mk (show w.heap.size < gb from by rw [hg]; exact blk_lt BK.out); have HNA := Aside0.mk (show (ad.add (m * 8)).block ≠ gb from Nat.ne_of_lt (Nat.lt_of_lt_of_le (World.block_lt_of_cell? _ _ hx0) (by rw [hg]; exact Nat.le_refl _))); have hcz : w16.cell? ⟨gb, 0, none⟩ = some (.int .i64 0) := (blk_cell hbox 0).trans rfl; have hfz := blk_frozen hbox 0; replace hx0 := (hb.cell (World.block_lt_of_cell? _ _ hx0)).trans hx0; replace hx1 := (hb.cell (World.block_lt_of_cell? _ _ hx1)).trans hx1; clear HO BK HB hb hbox hg) | (go_at_call 88; have BN2 := Aside0.mk (show (w16.setCell ⟨gb, 0, none⟩ (.int .i64 ((m : Int) + 1))).heap[gb]? = some (.cells #[.int .i64 ((m : Int) + 1)] 2 (0, 0)) from by simpa using blk_set BN.out 0 (.int .i64 ((m : Int) + 1))); have BK2 := Aside0.mk (blk_far BK1.out (p := ⟨gb, 0, none⟩) (Nat.ne_of_lt GE.out) (.int .i64 ((m : Int) + 1))); have HB2 := Aside0.mk (below_set (j := 0) (v := .int .i64 ((m : Int) + 1)) HB1.out (Nat.le_of_lt GE.out)); have HO2 := Aside0.mk (Kd.R_far (p := ⟨gb, 0, none⟩) HO1.out (fun _ hk => hk.2) (.int .i64 ((m : Int) + 1))); have NX0 := Aside0.mk ((World.cell?_of_block (Below.heap_setCell w16 ⟨gb, 0, none⟩ (.int .i64 ((m : Int) + 1)) _ HNA.out)).trans hx0); have NX1 := Aside0.mk ((World.cell?_of_block (a := ⟨(ad.add (m * 8)).block, (ad.add (m * 8)).off + 1, none⟩) (Below.heap_setCell w16 ⟨gb, 0, none⟩ (.int .i64 ((m : Int) + 1)) _ HNA.out)).trans hx1); clear hx0 hx1; refine (slices_ContainsFunc_impl_Rec.calls 89 #[.pointer (some ⟨w.heap.size, 0, none⟩), .pointer (some ⟨gb, 0, none⟩)] (impl_chain.p a1 ((m : Int) + 1)) A1 c1 yd _ (Kd.C_below HRd.out HB2.out) (fun W x _ hb2 => impl_chain.p_calls x a1 _ w.heap.size gb W (Nat.lt_of_lt_of_le (blk_lt BK2.out) hb2.size) (Nat.lt_of_lt_of_le (blk_lt BN2.out) hb2.size) ((blk_cell (blk_below BK2.out hb2) 0).trans rfl) ((blk_cell (blk_below BN2.out hb2) 0).trans rfl)) (enters_of Try.func89 (by kernel_rfl) rfl)).mono ?_; rintro e w17 ⟨rfl, hb'⟩; rw [HUD.out]; have hx0 := (hb'.cell (World.block_lt_of_cell? _ _ NX0.out)).trans NX0.out; have hx1 := (hb'.cell (World.block_lt_of_cell? _ _ NX1.out)).trans NX1.out; have hcz2 : w17.cell? ⟨gb, 0, none⟩ = some (.int .i64 ((m : Int) + 1)) := (blk_cell (blk_below BN2.out hb') 0).trans rfl; have hcz3 : w17.cell? ⟨w.heap.size, 0, none⟩ = some (.int .i64 a1) := (blk_cell (blk_below BK2.out hb') 0).trans rfl; have HO := Aside0.mk (Kd.R_mono (Kd.R_below HO2.out hb') (fun _ hk => hk.1)); have BK := Aside0.mk (blk_below BK2.out hb'); have HB := Aside0.mk (below_step HB2.out hb'); clear hb' HB1 HB2 BK1 BK2 HO1 HO2 BN BN2 hcz hfz) | ((with_reducible refine gate_builtin (b := .append) (xs := #[.tmp 44, .tmp 46]) rfl ?_); at_builtin; refine Kd.R_append (Kd.int .i64) (w0 := w) w.heap.size rfl (.tmp 44) (.tmp 46) 33 2 (.int .i64 0) 8 rfl Try.underlying33 info2 rfl (by decide) (by omega) u5 out ((m : Int) + 1) [.int .i64 ((m : Int) + 1)] (fun k_ => k_ ≠ w.heap.size) (fun _ => False) rfl (by first | (go_simp; done) | (go_simp; rfl)) ?aP (fun _ hk => hk.elim) ?aF ?aO ?aB ?aS ?aL ?_; (case aP => exact rfl); (case aF => exact (fun k_ hk => by have := blk_lt BK.out; simp at hk; omega)); (case aO => exact HO.out); (case aB => exact HB.out); (case aS => exact below_size HB.out); (case aL => have := HLn.out; have := HL.out; omega); intro v1 w19 ho2 hb2 hg2 _; have BK3 := Aside0.mk (blk_grown BK.out hg2 (fun e => HO.out.1 _ e.symm rfl)); have HO3 := Aside0.mk ho2; have HB3 := Aside0.mk hb2; clear ho2 hb2 hg2))
      go_quiet (fail)
      go_wp2
      go_roundg m.succ
      case measure => have := HG.out; omega
      case rel => exact ⟨m, out, Nat.le_of_lt hlt, by first | rfl | go_num, ⟨Nat.lt_succ_self _⟩, ⟨by have := HLn.out; omega⟩, HA2, ⟨by (with_reducible repeat (first | apply Kd.R_drewN)); exact HO.out⟩, ⟨by repeat (first | (with_reducible first | exact HB.out | apply pw_below_drewN) | exact HB.out)⟩, ⟨blk_drewN BK.out _⟩⟩
     have t2 : (X.f1 == a1) = false := by simpa using e2
     clear e2
     have hh : impl_chain.hit l0 a1 m = false := by unfold impl_chain.hit; rw [← HXq.out, ← HYD.out, t1, t2, HUD.out]; rfl
     have HA2 := Aside0.mk (show impl_chain.go l0 a1 m (out) = r from by have h2 := HA.out; unfold impl_chain.go at h2; rw [hh] at h2; exact h2)
     clear HA hh
     go_wp2_with (first | ((with_reducible refine gate_dst (N := 7) rfl ?_); refine box_event ?hg (N := 7) ?hd (cs := #[.int .i64 0]) (t := 2) ?hr ?_; (case hd => rfl); (case hg => rfl); (case hr => first | (go_simp; done) | (go_simp; rfl)); intro gb hg w16 hbox hb; have HO1 := Aside0.mk (Kd.R_below (Kd.R_elderB HO.out gb (by rw [hg]; exact Nat.le_refl _)) hb); have BK1 := Aside0.mk (blk_below BK.out hb); have BN := Aside0.mk hbox; have HB1 := Aside0.mk (below_step HB.out hb); have GE := Aside0.mk (show w.heap.size < gb from by rw [hg]; exact blk_lt BK.out); have HNA := Aside0.mk (show (ad.add (m * 8)).block ≠ gb from Nat.ne_of_lt (Nat.lt_of_lt_of_le (World.block_lt_of_cell? _ _ hx0) (by rw [hg]; exact Nat.le_refl _))); have hcz : w16.cell? ⟨gb, 0, none⟩ = some (.int .i64 0) := (blk_cell hbox 0).trans rfl; have hfz := blk_frozen hbox 0; replace hx0 := (hb.cell (World.block_lt_of_cell? _ _ hx0)).trans hx0; replace hx1 := (hb.cell (World.block_lt_of_cell? _ _ hx1)).trans hx1; clear HO BK HB hb hbox hg) | (go_at_call 88; have BN2 := Aside0.mk (show (w16.setCell ⟨gb, 0, none⟩ (.int .i64 ((m : Int) + 1))).heap[gb]? = some (.cells #[.int .i64 ((m : Int) + 1)] 2 (0, 0)) from by simpa using blk_set BN.out 0 (.int .i64 ((m : Int) + 1))); have BK2 := Aside0.mk (blk_far BK1.out (p := ⟨gb, 0, none⟩) (Nat.ne_of_lt GE.out) (.int .i64 ((m : Int) + 1))); have HB2 := Aside0.mk (below_set (j := 0) (v := .int .i64 ((m : Int) + 1)) HB1.out (Nat.le_of_lt GE.out)); have HO2 := Aside0.mk (Kd.R_far (p := ⟨gb, 0, none⟩) HO1.out (fun _ hk => hk.2) (.int .i64 ((m : Int) + 1))); have NX0 := Aside0.mk ((World.cell?_of_block (Below.heap_setCell w16 ⟨gb, 0, none⟩ (.int .i64 ((m : Int) + 1)) _ HNA.out)).trans hx0); have NX1 := Aside0.mk ((World.cell?_of_block (a := ⟨(ad.add (m * 8)).block, (ad.add (m * 8)).off + 1, none⟩) (Below.heap_setCell w16 ⟨gb, 0, none⟩ (.int .i64 ((m : Int) + 1)) _ HNA.out)).trans hx1); clear hx0 hx1; refine (slices_ContainsFunc_impl_Rec.calls 89 #[.pointer (some ⟨w.heap.size, 0, none⟩), .pointer (some ⟨gb, 0, none⟩)] (impl_chain.p a1 ((m : Int) + 1)) A1 c1 yd _ (Kd.C_below HRd.out HB2.out) (fun W x _ hb2 => impl_chain.p_calls x a1 _ w.heap.size gb W (Nat.lt_of_lt_of_le (blk_lt BK2.out) hb2.size) (Nat.lt_of_lt_of_le (blk_lt BN2.out) hb2.size) ((blk_cell (blk_below BK2.out hb2) 0).trans rfl) ((blk_cell (blk_below BN2.out hb2) 0).trans rfl)) (enters_of Try.func89 (by kernel_rfl) rfl)).mono ?_; rintro e w17 ⟨rfl, hb'⟩; rw [HUD.out]; have hx0 := (hb'.cell (World.block_lt_of_cell? _ _ NX0.out)).trans NX0.out; have hx1 := (hb'.cell (World.block_lt_of_cell? _ _ NX1.out)).trans NX1.out; have hcz2 : w17.cell? ⟨gb, 0, none⟩ = some (.int .i64 ((m : Int) + 1)) := (blk_cell (blk_below BN2.out hb') 0).trans rfl; have hcz3 : w17.cell? ⟨w.heap.size, 0, none⟩ = some (.int .i64 a1) := (blk_cell (blk_below BK2.out hb') 0).trans rfl; have HO := Aside0.mk (Kd.R_mono (Kd.R_below HO2.out hb') (fun _ hk => hk.1)); have BK := Aside0.mk (blk_below BK2.out hb'); have HB := Aside0.mk (below_step HB2.out hb'); clear hb' HB1 HB2 BK1 BK2 HO1 HO2 BN BN2 hcz hfz) | ((with_reducible refine gate_builtin (b := .append) (xs := #[.tmp 44, .tmp 46]) rfl ?_); at_builtin; refine Kd.R_append (Kd.int .i64) (w0 := w) w.heap.size rfl (.tmp 44) (.tmp 46) 33 2 (.int .i64 0) 8 rfl Try.underlying33 info2 rfl (by decide) (by omega) u5 out ((m : Int) + 1) [.int .i64 ((m : Int) + 1)] (fun k_ => k_ ≠ w.heap.size) (fun _ => False) rfl (by first | (go_simp; done) | (go_simp; rfl)) ?aP (fun _ hk => hk.elim) ?aF ?aO ?aB ?aS ?aL ?_; (case aP => exact rfl); (case aF => exact (fun k_ hk => by have := blk_lt BK.out; simp at hk; omega)); (case aO => exact HO.out); (case aB => exact HB.out); (case aS => exact below_size HB.out); (case aL => have := HLn.out; have := HL.out; omega); intro v1 w19 ho2 hb2 hg2 _; have BK3 := Aside0.mk (blk_grown BK.out hg2 (fun e => HO.out.1 _ e.symm rfl)); have HO3 := Aside0.mk ho2; have HB3 := Aside0.mk hb2; clear ho2 hb2 hg2))
     go_quiet (fail)
     go_wp2
     go_roundg m.succ
     case measure => have := HG.out; omega
     case rel => exact ⟨m, out, Nat.le_of_lt hlt, by first | rfl | go_num, ⟨Nat.lt_succ_self _⟩, ⟨by have := HLn.out; omega⟩, HA2, ⟨by (with_reducible repeat (first | apply Kd.R_drewN)); exact HO.out⟩, ⟨by repeat (first | (with_reducible first | exact HB.out | apply pw_below_drewN) | exact HB.out)⟩, ⟨blk_drewN BK.out _⟩⟩
 rw [if_neg hl] at h
 cases h
end Go.Proofs.Ythagppmaofcllaa.P
