import Derived.Test.YthagppmaofcllaaP0
import Derived.Test.YthagppmaofcllaaPCall0
import Derived.Test.YthagppmaofcllaaPCall1
import Derived.Test.YthagppmaofcllaaPCall2
import Derived.Test.YthagppmaofcllaaPDm0
import Derived.Test.YthagppmaofcllaaWRepsOne
import Derived.Test.YthagppmaofcllaaLv
import Derived.Test.YthagppmaofcllaaLv
import Derived.Test.YthagppmaofcllaaLv
import Derived.Test.YthagppmaofcllaaLb
import Derived.Shelf.Abstract
import Derived.Test.YthagppmaofcllaaLb
namespace Go.Proofs.Ythagppmaofcllaa.P
open Go.RowKit Go.Proofs.YthagppmaofcllaaW.PrintWords Go.Proofs.YthagppmaofcllaaW.PrintLast Go.Proofs.YthagppmaofcllaaW.PrintMore
attribute [local go_sem] max2_int min2_int max_two min_two max_three min_three max_four min_four   -- for this text's walks alone
set_option linter.unusedVariables false
set_option linter.unusedSimpArgs false
set_option maxHeartbeats 8000000 in
set_option maxRecDepth 100000 in
theorem Zsl1Has.calls (k : Nat) (A0 : Option Addr) (c0 : Nat) (l0 : List Int) (a1 : Int) (r : Bool) (w : World) (hr0 : Kd.C (Kd.int .i64) w A0 l0.length l0) (hc0 : l0.length ≤ c0) (h : Zsl1Has.f k l0 a1 = some r) :
 Calls Try.prog 87 #[.slice A0 l0.length c0, .int .i64 a1] w fun e w' => e = .returned (.bool r) ∧ Drawn0 w w' := by
 have HR0 := Qz.mk hr0
 have HC0 := Qz.mk hc0
 clear hr0 hc0
 have H : (Zsl1Has.l0 k l0 a1 0) = some r := h
 clear h
 have H' := Qz.mk H
 clear H
 go_enter Try.func87, Try.ntmps87
 go_wp2
 go_loopg [5] k (fun kq v5 w' => ∃ (x5_1 : Int), v5 = .int .i64 x5_1 ∧ Qz (Zsl1Has.l0 kq l0 a1 x5_1 = some r) ∧ Qz (kq ≤ k) ∧ Drawn0 w w')
 case atStart => exact ⟨(0), (by first | rfl | (simp; done) | (simp [*]; done)), H', ⟨Nat.le_refl _⟩, by repeat (first | exact Drawn0.refl _ | apply Drawn0.step)⟩
 case round =>
  clear H'
  try clear p2
  obtain ⟨x5_1, rfl, HA, HK1, ⟨m1, rfl⟩⟩ := hrel
  cases gk with
  | zero => exact absurd HA.out (by simp [Zsl1Has.l0])
  | succ k1 =>
   have H := HA.out
   clear HA
   simp only [Zsl1Has.l0] at H
   by_cases c3 : x5_1 < (l0.length : Int)
   ·rw [if_pos c3] at H
    have c3b0 : decide (x5_1 < (l0.length : Int)) = true := decide_eq_true c3
    clear c3
    by_cases c4 : 0 ≤ x5_1
    ·rw [if_pos c4] at H
     have c4b0 : decide (0 ≤ x5_1) = true := decide_eq_true c4
     clear c4
     by_cases c5 : (rd l0 x5_1) = a1
     ·rw [if_pos c5] at H
      have c5b0 : ((rd l0 x5_1) == a1) = true := beq_iff_eq.mpr c5
      have c5b1 : ((rd l0 x5_1) != a1) = false := bne_eq_false_iff_eq.mpr c5
      clear c5
      obtain rfl := Option.some.inj H
      have p378 : 0 ≤ (x5_1 : Int) := of_decide_eq_true (by first | (with_reducible assumption) | assumption)
      have q6 : x5_1 < (l0.length : Int) := of_decide_eq_true (by first | (with_reducible assumption) | assumption)
      obtain ⟨ad6, e378, hx6_0⟩ := Kd.at_int HR0.out x5_1 p378 q6
      cases e378
      replace p378 := eq_true p378
      replace q6 := eq_true q6
      go_wp2
      go_ret
      exact ⟨by first | rfl | (simp; done) | (simp [*]; done), by repeat (first | exact Drawn0.refl _ | apply Drawn0.step)⟩
     rw [if_neg c5] at H
     have c5b0 : ((rd l0 x5_1) == a1) = false := beq_eq_false_iff_ne.mpr c5
     have c5b1 : ((rd l0 x5_1) != a1) = true := bne_iff_ne.mpr c5
     have H' := Qz.mk H
     clear H
     have p378 : 0 ≤ (x5_1 : Int) := of_decide_eq_true (by first | (with_reducible assumption) | assumption)
     have q6 : x5_1 < (l0.length : Int) := of_decide_eq_true (by first | (with_reducible assumption) | assumption)
     obtain ⟨ad6, e378, hx6_0⟩ := Kd.at_int HR0.out x5_1 p378 q6
     cases e378
     replace p378 := eq_true p378
     replace q6 := eq_true q6
     go_wp2
     go_roundg k1
     case measure => have := HK1.out; omega
     case rel => exact ⟨(wrap64 (x5_1 + 1)), (by first | rfl | (simp; done) | (simp [*]; done)), H', ⟨by have := HK1.out; omega⟩, by repeat (first | exact Drawn0.refl _ | apply Drawn0.step)⟩
    rw [if_neg c4] at H
    exact absurd H (by simp)
   rw [if_neg c3] at H
   have c3b0 : decide (x5_1 < (l0.length : Int)) = false := decide_eq_false c3
   clear c3
   obtain rfl := Option.some.inj H
   go_wp2
   go_ret
   exact ⟨by first | rfl | (simp; done) | (simp [*]; done), by repeat (first | exact Drawn0.refl _ | apply Drawn0.step)⟩
set_option maxHeartbeats 8000000 in
set_option maxRecDepth 100000 in
theorem Zsl3Back.calls (k : Nat) (A0 : Option Addr) (c0 : Nat) (l0 : List (S48)) (a1 : Int) (r : List Int) (w : World) (hr0 : Kd.C k48 w A0 l0.length l0) (hc0 : l0.length ≤ c0) (h : Zsl3Back.f k l0 a1 = some r) :
 Calls Try.prog 54 #[.slice A0 l0.length c0, .int .i64 a1] w fun e w' => ∃ v0_ : Value, e = .returned (v0_) ∧ Kd.R (Kd.int .i64) 2 w' w.heap.size (fun _ => True) v0_ r ∧ Below w.heap.size w w' := by
 have hu48 := Try.underlying48
 have HR0 := Qz.mk hr0
 have HC0 := Qz.mk hc0
 clear hr0 hc0
 have HB := Qz.mk (Below.refl w.heap.size w)
 have H : (Zsl3Back.l0 k l0 a1 (([] : List Int)) (([] : List Int)) (wrap64 ((l0.length : Int) - 1))) = some r := h
 clear h
 obtain ⟨y53, hy53⟩ : ∃ y_ : List Int, y_ = (([] : List Int)) := ⟨_, rfl⟩
 replace H : (Zsl3Back.l0 k l0 a1 y53 (([] : List Int)) (wrap64 ((l0.length : Int) - 1))) = some r := by first | (rw [hy53]; with_reducible exact H) | (have H2_ := (Option.bind_some _ _).symm.trans H; rw [hy53]; with_reducible exact H2_) | (have H2_ := (Option.bind_some _ _).symm.trans H; with_reducible exact H2_) | with_reducible exact H | (rw [hy53]; exact H) | exact H
 have Ny53 := Qz.mk hy53
 clear hy53
 obtain ⟨y55, hy55⟩ : ∃ y_ : List Int, y_ = (([] : List Int)) := ⟨_, rfl⟩
 replace H : (Zsl3Back.l0 k l0 a1 y53 y55 (wrap64 ((l0.length : Int) - 1))) = some r := by first | (rw [hy55]; with_reducible exact H) | (have H2_ := (Option.bind_some _ _).symm.trans H; rw [hy55]; with_reducible exact H2_) | (have H2_ := (Option.bind_some _ _).symm.trans H; with_reducible exact H2_) | with_reducible exact H | (rw [hy55]; exact H) | exact H
 have Ny55 := Qz.mk hy55
 clear hy55
 have H' := Qz.mk H
 clear H
 go_enter Try.func54, Try.ntmps54
 go_wp2_with (first | ((with_reducible refine gate_dst (N := 9) rfl ?_); refine Kd.R_lit (Kd.int .i64) _ 2 ?hg (N := 9) ?hd (xs := ([] : List Int)) (inner := []) (ok := fun _ => True) (okp := fun _ => True) ?hr ?hp (fun _ hk => hk) trivial (Below.refl _ _) (Nat.le_refl _) (by simp) ?_; (case hd => rfl); (case hg => rfl); (case hr => first | (go_simp; done) | (go_simp; rfl)); (case hp => exact (Reps.none _ _)); intro v68 w3 ho4 hb hg_ hnew_; clear hg_ hnew_; (first | rw [← Ny53.out] at ho4 | (simp only [Int.reduceToNat] at ho4; rw [← Ny53.out] at ho4)); have n0_ := Qz.mk (Kd.Qan ho4 (Qp (by repeat (first | (with_reducible first | exact HB.out | apply Qc | apply Qa | apply Qb) | exact HB.out)))); have n1_ := Qz.mk (Qq (by repeat (first | (with_reducible first | exact HB.out | apply Qc | apply Qa | apply Qb) | exact HB.out)) hb); clear HB; have HO58 := n0_; have HB := n1_; clear n0_ n1_; clear hb ho4) | ((with_reducible refine gate_dst (N := 10) rfl ?_); refine Kd.R_lit (Kd.int .i64) _ 2 ?hg (N := 10) ?hd (xs := ([] : List Int)) (inner := []) (ok := fun _ => True) (okp := fun _ => True) ?hr ?hp (fun _ hk => hk) trivial (Below.refl _ _) (Nat.le_refl _) (by simp) ?_; (case hd => rfl); (case hg => rfl); (case hr => first | (go_simp; done) | (go_simp; rfl)); (case hp => exact (Reps.none _ _)); intro v69 w5 ho6 hb hg_ hnew_; clear hg_ hnew_; (first | rw [← Ny55.out] at ho6 | (simp only [Int.reduceToNat] at ho6; rw [← Ny55.out] at ho6)); have n0_ := Qz.mk (Kd.R_elder' (by (with_reducible repeat (first | apply Kd.Qn | apply Kd.Qm | apply Kd.Qo)); exact HO58.out) (Kd.Qah ho6) hb); have n1_ := Qz.mk (Kd.Qan (Kd.Qal ho6 (Kd.R_lt (by (with_reducible repeat (first | apply Kd.Qn | apply Kd.Qm | apply Kd.Qo)); exact HO58.out))) (Qp (by repeat (first | (with_reducible first | exact HB.out | apply Qc | apply Qa | apply Qb) | exact HB.out)))); have n2_ := Qz.mk (Qq (by repeat (first | (with_reducible first | exact HB.out | apply Qc | apply Qa | apply Qb) | exact HB.out)) hb); clear HO58; clear HB; have HO58 := n0_; have HO65 := n1_; have HB := n2_; clear n0_ n1_ n2_; clear hb ho6))
 go_loopg [5, 6, 7] k (fun kq v5 v6 v7 w' => ∃ (x5_1 : List Int) (x6_1 : List Int) (x7_1 : Int), v7 = .int .i64 x7_1 ∧ Qz (Zsl3Back.l0 kq l0 a1 x5_1 x6_1 x7_1 = some r) ∧ Qz (kq ≤ k) ∧ Qz (Kd.R (Kd.int .i64) 2 w' w.heap.size (fun k_ => some k_ ≠ (v6 : Value).ownBlock) v5 x5_1) ∧ Qz (Kd.R (Kd.int .i64) 2 w' w.heap.size (fun k_ => some k_ ≠ (v5 : Value).ownBlock) v6 x6_1) ∧ Qz (Below w.heap.size w w'))
 case atStart => exact ⟨(y53), (y55), (wrap64 ((l0.length : Int) - 1)), (by first | rfl | (simp; done) | (simp [*]; done)), H', ⟨Nat.le_refl _⟩, ⟨by (with_reducible repeat (first | apply Kd.Qn | apply Kd.Qm | apply Kd.Qo)); exact Kd.Qw HO58.out (fun _ hk => hk.2)⟩, ⟨by (with_reducible repeat (first | apply Kd.Qn | apply Kd.Qm | apply Kd.Qo)); exact Kd.Qw HO65.out (fun _ hk => hk.2)⟩, ⟨by repeat (first | (with_reducible first | exact HB.out | apply Qc | apply Qa | apply Qb) | exact HB.out)⟩⟩
 case round =>
  clear H'
  try clear p2
  try clear c5
  try clear p6
  obtain ⟨x5_1, x6_1, x7_1, rfl, HA, HK1, HO_5, HO_6, HB⟩ := hrel
  cases gk with
  | zero => exact absurd HA.out (by simp [Zsl3Back.l0])
  | succ k1 =>
   have H := HA.out
   clear HA
   simp only [Zsl3Back.l0] at H
   by_cases c7 : x7_1 ≥ 0
   ·rw [if_pos c7] at H
    have c7b0 : decide (0 ≤ x7_1) = true := decide_eq_true c7
    clear c7
    by_cases c8 : 0 ≤ x7_1
    ·rw [if_pos c8] at H
     have c8b0 : decide (0 ≤ x7_1) = true := decide_eq_true c8
     clear c8
     by_cases c9 : x7_1 < (l0.length : Int)
     ·rw [if_pos c9] at H
      have c9b0 : decide (x7_1 < (l0.length : Int)) = true := decide_eq_true c9
      clear c9
      by_cases c10 : ((rd_T48 l0 x7_1).f1) = a1
      ·rw [if_pos c10] at H
       have c10b0 : (((rd_T48 l0 x7_1).f1) == a1) = true := beq_iff_eq.mpr c10
       have c10b1 : (((rd_T48 l0 x7_1).f1) != a1) = false := bne_eq_false_iff_eq.mpr c10
       clear c10
       by_cases c11 : ((rd_T48 l0 x7_1).f0) = 5
       ·rw [if_pos c11] at H
        have c11b0 : (((rd_T48 l0 x7_1).f0) == 5) = true := beq_iff_eq.mpr c11
        have c11b1 : (((rd_T48 l0 x7_1).f0) != 5) = false := bne_eq_false_iff_eq.mpr c11
        clear c11
        by_cases c12 : x5_1.length < 17592186044416
        ·rw [if_pos c12] at H
         have LMc12 := Qz.mk c12
         clear c12
         obtain ⟨y51, hy51⟩ : ∃ y_ : List Int, y_ = (x5_1 ++ [(rd_T48 l0 x7_1).f7]) := ⟨_, rfl⟩
         replace H : (if ((rd_T48 l0 x7_1).f0) = 2 then ((Zsl1Has.f k1 y51 (wrap64 (x7_1 + 1))).bind fun t59 => (if t59 = true then (Zsl3Back.l0 k1 l0 a1 y51 x6_1 (wrap64 (x7_1 - 1))) else (if x6_1.length < 17592186044416 then (Zsl3Back.l0 k1 l0 a1 y51 (x6_1 ++ [wrap64 (x7_1 + 1)]) (wrap64 (x7_1 - 1))) else (none)))) else (Zsl3Back.l0 k1 l0 a1 y51 x6_1 (wrap64 (x7_1 - 1)))) = some r := by first | (rw [hy51]; with_reducible exact H) | (have H2_ := (Option.bind_some _ _).symm.trans H; rw [hy51]; with_reducible exact H2_) | (have H2_ := (Option.bind_some _ _).symm.trans H; with_reducible exact H2_) | with_reducible exact H | (rw [hy51]; exact H) | exact H
         have Ny51 := Qz.mk hy51
         clear hy51
         by_cases c13 : ((rd_T48 l0 x7_1).f0) = 2
         ·rw [if_pos c13] at H
          have c13b0 : (((rd_T48 l0 x7_1).f0) == 2) = true := beq_iff_eq.mpr c13
          have c13b1 : (((rd_T48 l0 x7_1).f0) != 2) = false := bne_eq_false_iff_eq.mpr c13
          clear c13
          replace H := Qj9 H
          obtain ⟨t59, A60, H⟩ := H
          replace H : (if t59 = true then (Zsl3Back.l0 k1 l0 a1 y51 x6_1 (wrap64 (x7_1 - 1))) else (if x6_1.length < 17592186044416 then (Zsl3Back.l0 k1 l0 a1 y51 (x6_1 ++ [wrap64 (x7_1 + 1)]) (wrap64 (x7_1 - 1))) else (none))) = some r := H
          have A14 := Qz.mk A60
          clear A60
          by_cases c15 : t59 = true
          ·subst c15
           have H1 : (Zsl3Back.l0 k1 l0 a1 y51 x6_1 (wrap64 (x7_1 - 1))) = some r := by rw [if_pos rfl] at H; exact H
           clear H
           have H := H1
           clear H1
           have H' := Qz.mk H
           clear H
           have p385 : 0 ≤ (x7_1 : Int) := of_decide_eq_true (by first | (with_reducible assumption) | assumption)
           have q50 : x7_1 < (l0.length : Int) := of_decide_eq_true (by first | (with_reducible assumption) | assumption)
           obtain ⟨ad50, e385, hx50_0, hx50_1, hx50_2, hx50_3, hx50_4, hx50_5, hx50_6, hx50_7⟩ := at_T48 (Kd.Qac HR0.out HB.out) x7_1 p385 q50
           cases e385
           replace p385 := eq_true p385
           replace q50 := eq_true q50
           go_wp2_with (first | ((with_reducible refine gate_dst (N := 8) rfl ?_); refine box_event ?hg (N := 8) ?hd (cs := #[.int .i64 0, .int .i64 0, .int .i64 0, .bool false, .int .i64 0, .bool false, .int .i64 0, .int .i64 0]) (t := 48) ?hr ?_; (case hd => rfl); (case hg => rfl); (case hr => first | (go_simp; done) | (go_simp; rfl)); intro gb49 hg w16 hbox hb; have n0_ := Qz.mk (Kd.Qy (by (with_reducible repeat (first | apply Kd.Qn | apply Kd.Qm | apply Kd.Qo)); exact HO_5.out) hb); have n1_ := Qz.mk (Kd.Qy (by (with_reducible repeat (first | apply Kd.Qn | apply Kd.Qm | apply Kd.Qo)); exact HO_6.out) hb); have n2_ := Qz.mk (Qq (by repeat (first | (with_reducible first | exact HB.out | apply Qc | apply Qa | apply Qb) | exact HB.out)) hb); have n3_ := Qz.mk (hbox); have n4_ := Qz.mk ((by rw [hg]; exact (Qp (by repeat (first | (with_reducible first | exact HB.out | apply Qc | apply Qa | apply Qb) | exact HB.out))) : w.heap.size ≤ gb49)); have n5_ := n4_; clear HO_5; clear HO_6; clear HB; have HO_5 := n0_; have HO_6 := n1_; have HB := n2_; have BK49 := n3_; have GW49 := n4_; have GE49 := n5_; clear n0_ n1_ n2_ n3_ n4_ n5_; clear hb hbox hg; obtain ⟨z17_0, z17_1, z17_2, z17_3, z17_4, z17_5, z17_6, z17_7, j17_0, j17_1, j17_2, j17_3, j17_4, j17_5, j17_6, j17_7⟩ := Lv.blks8 BK49.out) | ((with_reducible refine gate_builtin (b := .append) (xs := #[.tmp 29, .tmp 32]) rfl ?_); at_builtin; refine Kd.R_append (Kd.int .i64) (w0 := w) w.heap.size rfl (.tmp 29) (.tmp 32) 33 2 (.int .i64 0) 8 rfl Try.underlying33 info2 rfl (by decide) (by omega) u5 x5_1 ((rd_T48 l0 x7_1).f7) [.int .i64 ((rd_T48 l0 x7_1).f7)] (fun k_ => some k_ ≠ (u6 : Value).ownBlock) (fun _ => False) rfl (by first | exact (congrArg (fun n_ => Value.slice (some ⟨n_, 0, none⟩) 1 1) (by simp [World.setCell])) | (go_simp; done) | (go_simp; rfl)) ?aP (fun _ hk => hk.elim) ?aF ?aO ?aB ?aS ?aL ?_; (case aP => exact rfl); (case aB => exact (by repeat (first | (with_reducible first | exact HB.out | apply Qc | apply Qa | apply Qb | refine Qd ?_ GE49.out) | exact HB.out))); (case aF => exact (fun k_ hk => Kd.fresh' (Kd.R_lt (by (with_reducible repeat (first | apply Kd.Qn | apply Kd.Qm | apply Kd.Qo)); exact (Kd.Qw (Kd.Qx (p := ⟨gb49, 7, none⟩) (Kd.Qx (p := ⟨gb49, 6, none⟩) (Kd.Qx (p := ⟨gb49, 5, none⟩) (Kd.Qx (p := ⟨gb49, 4, none⟩) (Kd.Qx (p := ⟨gb49, 3, none⟩) (Kd.Qx (p := ⟨gb49, 2, none⟩) (Kd.Qx (p := ⟨gb49, 1, none⟩) (Kd.Qx (p := ⟨gb49, 0, none⟩) (Kd.Qai HO_6.out BK49.out (by decide)) (fun _ hk => hk.2) (.int .i64 ((rd_T48 l0 x7_1).f0))) (fun _ hk => hk.2) (.int .i64 ((rd_T48 l0 x7_1).f1))) (fun _ hk => hk.2) (.int .i64 ((rd_T48 l0 x7_1).f2))) (fun _ hk => hk.2) (.bool ((rd_T48 l0 x7_1).f3))) (fun _ hk => hk.2) (.int .i64 ((rd_T48 l0 x7_1).f4))) (fun _ hk => hk.2) (.bool ((rd_T48 l0 x7_1).f5))) (fun _ hk => hk.2) (.int .i64 ((rd_T48 l0 x7_1).f6))) (fun _ hk => hk.2) (.int .i64 ((rd_T48 l0 x7_1).f7))) (fun _ h_ => h_.1)))) k_ hk)); (case aO => exact (by (with_reducible repeat (first | apply Kd.Qn | apply Kd.Qm | apply Kd.Qo)); exact Kd.Qw (Kd.Qx (p := ⟨gb49, 7, none⟩) (Kd.Qx (p := ⟨gb49, 6, none⟩) (Kd.Qx (p := ⟨gb49, 5, none⟩) (Kd.Qx (p := ⟨gb49, 4, none⟩) (Kd.Qx (p := ⟨gb49, 3, none⟩) (Kd.Qx (p := ⟨gb49, 2, none⟩) (Kd.Qx (p := ⟨gb49, 1, none⟩) (Kd.Qx (p := ⟨gb49, 0, none⟩) (Kd.Qai HO_5.out BK49.out (by decide)) (fun _ hk => hk.2) (.int .i64 ((rd_T48 l0 x7_1).f0))) (fun _ hk => hk.2) (.int .i64 ((rd_T48 l0 x7_1).f1))) (fun _ hk => hk.2) (.int .i64 ((rd_T48 l0 x7_1).f2))) (fun _ hk => hk.2) (.bool ((rd_T48 l0 x7_1).f3))) (fun _ hk => hk.2) (.int .i64 ((rd_T48 l0 x7_1).f4))) (fun _ hk => hk.2) (.bool ((rd_T48 l0 x7_1).f5))) (fun _ hk => hk.2) (.int .i64 ((rd_T48 l0 x7_1).f6))) (fun _ hk => hk.2) (.int .i64 ((rd_T48 l0 x7_1).f7))) (fun _ hk => hk.1))); (case aS => exact (Qp (by repeat (first | (with_reducible first | exact HB.out | apply Qc | apply Qa | apply Qb | refine Qd ?_ GE49.out) | exact HB.out)))); (case aL => have := LMc12.out; omega); intro v61 w18 ho hb hg hat; rw [← Ny51.out] at ho; have n0_ := Qz.mk (Kd.R_after (ok := (fun _ => True)) (by (with_reducible repeat (first | apply Kd.Qn | apply Kd.Qm | apply Kd.Qo)); exact Kd.Qw (Kd.Qx (p := ⟨gb49, 7, none⟩) (Kd.Qx (p := ⟨gb49, 6, none⟩) (Kd.Qx (p := ⟨gb49, 5, none⟩) (Kd.Qx (p := ⟨gb49, 4, none⟩) (Kd.Qx (p := ⟨gb49, 3, none⟩) (Kd.Qx (p := ⟨gb49, 2, none⟩) (Kd.Qx (p := ⟨gb49, 1, none⟩) (Kd.Qx (p := ⟨gb49, 0, none⟩) (Kd.Qai HO_6.out BK49.out (by decide)) (fun _ hk => hk.2) (.int .i64 ((rd_T48 l0 x7_1).f0))) (fun _ hk => hk.2) (.int .i64 ((rd_T48 l0 x7_1).f1))) (fun _ hk => hk.2) (.int .i64 ((rd_T48 l0 x7_1).f2))) (fun _ hk => hk.2) (.bool ((rd_T48 l0 x7_1).f3))) (fun _ hk => hk.2) (.int .i64 ((rd_T48 l0 x7_1).f4))) (fun _ hk => hk.2) (.bool ((rd_T48 l0 x7_1).f5))) (fun _ hk => hk.2) (.int .i64 ((rd_T48 l0 x7_1).f6))) (fun _ hk => hk.2) (.int .i64 ((rd_T48 l0 x7_1).f7))) (fun _ hk => ⟨trivial, hk.1⟩)) hg hat); have n1_ := Qz.mk (blk_grown (g := gb49) (o := .cells #[.int .i64 ((rd_T48 l0 x7_1).f0), .int .i64 ((rd_T48 l0 x7_1).f1), .int .i64 ((rd_T48 l0 x7_1).f2), .bool ((rd_T48 l0 x7_1).f3), .int .i64 ((rd_T48 l0 x7_1).f4), .bool ((rd_T48 l0 x7_1).f5), .int .i64 ((rd_T48 l0 x7_1).f6), .int .i64 ((rd_T48 l0 x7_1).f7)] 48 (0, 0)) (by (with_reducible repeat (first | refine Qe ?_ _ | refine Qg ?_ | refine Qf ?_ _)); refine Qk (cs := #[.int .i64 ((rd_T48 l0 x7_1).f0), .int .i64 ((rd_T48 l0 x7_1).f1), .int .i64 ((rd_T48 l0 x7_1).f2), .bool ((rd_T48 l0 x7_1).f3), .int .i64 ((rd_T48 l0 x7_1).f4), .bool ((rd_T48 l0 x7_1).f5), .int .i64 ((rd_T48 l0 x7_1).f6), .int .i64 0]) ?_ 7 _ rfl; (with_reducible repeat (first | refine Qe ?_ _ | refine Qg ?_ | refine Qf ?_ _)); refine Qk (cs := #[.int .i64 ((rd_T48 l0 x7_1).f0), .int .i64 ((rd_T48 l0 x7_1).f1), .int .i64 ((rd_T48 l0 x7_1).f2), .bool ((rd_T48 l0 x7_1).f3), .int .i64 ((rd_T48 l0 x7_1).f4), .bool ((rd_T48 l0 x7_1).f5), .int .i64 0, .int .i64 0]) ?_ 6 _ rfl; (with_reducible repeat (first | refine Qe ?_ _ | refine Qg ?_ | refine Qf ?_ _)); refine Qk (cs := #[.int .i64 ((rd_T48 l0 x7_1).f0), .int .i64 ((rd_T48 l0 x7_1).f1), .int .i64 ((rd_T48 l0 x7_1).f2), .bool ((rd_T48 l0 x7_1).f3), .int .i64 ((rd_T48 l0 x7_1).f4), .bool false, .int .i64 0, .int .i64 0]) ?_ 5 _ rfl; (with_reducible repeat (first | refine Qe ?_ _ | refine Qg ?_ | refine Qf ?_ _)); refine Qk (cs := #[.int .i64 ((rd_T48 l0 x7_1).f0), .int .i64 ((rd_T48 l0 x7_1).f1), .int .i64 ((rd_T48 l0 x7_1).f2), .bool ((rd_T48 l0 x7_1).f3), .int .i64 0, .bool false, .int .i64 0, .int .i64 0]) ?_ 4 _ rfl; (with_reducible repeat (first | refine Qe ?_ _ | refine Qg ?_ | refine Qf ?_ _)); refine Qk (cs := #[.int .i64 ((rd_T48 l0 x7_1).f0), .int .i64 ((rd_T48 l0 x7_1).f1), .int .i64 ((rd_T48 l0 x7_1).f2), .bool false, .int .i64 0, .bool false, .int .i64 0, .int .i64 0]) ?_ 3 _ rfl; (with_reducible repeat (first | refine Qe ?_ _ | refine Qg ?_ | refine Qf ?_ _)); refine Qk (cs := #[.int .i64 ((rd_T48 l0 x7_1).f0), .int .i64 ((rd_T48 l0 x7_1).f1), .int .i64 0, .bool false, .int .i64 0, .bool false, .int .i64 0, .int .i64 0]) ?_ 2 _ rfl; (with_reducible repeat (first | refine Qe ?_ _ | refine Qg ?_ | refine Qf ?_ _)); refine Qk (cs := #[.int .i64 ((rd_T48 l0 x7_1).f0), .int .i64 0, .int .i64 0, .bool false, .int .i64 0, .bool false, .int .i64 0, .int .i64 0]) ?_ 1 _ rfl; (with_reducible repeat (first | refine Qe ?_ _ | refine Qg ?_ | refine Qf ?_ _)); refine Qk (cs := #[.int .i64 0, .int .i64 0, .int .i64 0, .bool false, .int .i64 0, .bool false, .int .i64 0, .int .i64 0]) ?_ 0 _ rfl; (with_reducible repeat (first | refine Qe ?_ _ | refine Qg ?_ | refine Qf ?_ _)); exact BK49.out) hg (Kd.R_ne HO_5.out BK49.out (by decide))); have n2_ := Qz.mk (hb); have n3_ := Qz.mk (ho); clear HO_6; clear BK49; clear HB; clear HO_5; have HO_6 := n0_; have BK49 := n1_; have HB := n2_; have HO52 := n3_; clear n0_ n1_ n2_ n3_; clear ho hb hg hat; obtain ⟨z19_0, z19_1, z19_2, z19_3, z19_4, z19_5, z19_6, z19_7, j19_0, j19_1, j19_2, j19_3, j19_4, j19_5, j19_6, j19_7⟩ := Lv.blks8 BK49.out; obtain ⟨Ao20, co20, eo20⟩ := Kd.R_slice HO52.out; subst eo20) | (go_at_call 87; (with_reducible refine (Zsl1Has.calls k1 _ _ y51 (wrap64 (x7_1 + 1)) true _ ?side1 ?side2 A14.out).mono ?_); (case side1 => repeat (first | exact (Kd.Qaj HO52.out).2.2 | (with_reducible first | refine Kd.Qaa ?_ _ | refine Kd.Qz ?_ _ | refine Kd.Qab ?_))); (case side2 => exact (Kd.Qaj HO52.out).2.1); rintro e w' ⟨rfl, ⟨nd, rfl⟩⟩))
           go_roundg k1
           case measure => have := HK1.out; omega
           case rel => exact ⟨(y51), (x6_1), (wrap64 (x7_1 - 1)), (by first | rfl | (simp; done) | (simp [*]; done)), H', ⟨by have := HK1.out; omega⟩, ⟨by (with_reducible repeat (first | apply Kd.Qn | apply Kd.Qm | apply Kd.Qo)); exact HO52.out⟩, ⟨by (with_reducible repeat (first | apply Kd.Qn | apply Kd.Qm | apply Kd.Qo)); exact Kd.Qw HO_6.out (fun _ hk => hk.2)⟩, ⟨by repeat (first | (with_reducible first | exact HB.out | apply Qc | apply Qa | apply Qb | refine Qd ?_ GE49.out) | exact HB.out)⟩⟩
          replace c15 := Bool.eq_false_iff.mpr c15
          subst c15
          have H1 : (if x6_1.length < 17592186044416 then (Zsl3Back.l0 k1 l0 a1 y51 (x6_1 ++ [wrap64 (x7_1 + 1)]) (wrap64 (x7_1 - 1))) else (none)) = some r := by rw [if_neg (show ¬ (false = true) by decide)] at H; exact H
          clear H
          have H := H1
          clear H1
          by_cases c21 : x6_1.length < 17592186044416
          ·rw [if_pos c21] at H
           have LMc21 := Qz.mk c21
           clear c21
           obtain ⟨y56, hy56⟩ : ∃ y_ : List Int, y_ = (x6_1 ++ [wrap64 (x7_1 + 1)]) := ⟨_, rfl⟩
           replace H : (Zsl3Back.l0 k1 l0 a1 y51 y56 (wrap64 (x7_1 - 1))) = some r := by first | (rw [hy56]; with_reducible exact H) | (have H2_ := (Option.bind_some _ _).symm.trans H; rw [hy56]; with_reducible exact H2_) | (have H2_ := (Option.bind_some _ _).symm.trans H; with_reducible exact H2_) | with_reducible exact H | (rw [hy56]; exact H) | exact H
           have Ny56 := Qz.mk hy56
           clear hy56
           have H' := Qz.mk H
           clear H
           have p385 : 0 ≤ (x7_1 : Int) := of_decide_eq_true (by first | (with_reducible assumption) | assumption)
           have q50 : x7_1 < (l0.length : Int) := of_decide_eq_true (by first | (with_reducible assumption) | assumption)
           obtain ⟨ad50, e385, hx50_0, hx50_1, hx50_2, hx50_3, hx50_4, hx50_5, hx50_6, hx50_7⟩ := at_T48 (Kd.Qac HR0.out HB.out) x7_1 p385 q50
           cases e385
           replace p385 := eq_true p385
           replace q50 := eq_true q50
           go_wp2_with (first | ((with_reducible refine gate_dst (N := 8) rfl ?_); refine box_event ?hg (N := 8) ?hd (cs := #[.int .i64 0, .int .i64 0, .int .i64 0, .bool false, .int .i64 0, .bool false, .int .i64 0, .int .i64 0]) (t := 48) ?hr ?_; (case hd => rfl); (case hg => rfl); (case hr => first | (go_simp; done) | (go_simp; rfl)); intro gb49 hg w22 hbox hb; have n0_ := Qz.mk (Kd.Qy (by (with_reducible repeat (first | apply Kd.Qn | apply Kd.Qm | apply Kd.Qo)); exact HO_5.out) hb); have n1_ := Qz.mk (Kd.Qy (by (with_reducible repeat (first | apply Kd.Qn | apply Kd.Qm | apply Kd.Qo)); exact HO_6.out) hb); have n2_ := Qz.mk (Qq (by repeat (first | (with_reducible first | exact HB.out | apply Qc | apply Qa | apply Qb) | exact HB.out)) hb); have n3_ := Qz.mk (hbox); have n4_ := Qz.mk ((by rw [hg]; exact (Qp (by repeat (first | (with_reducible first | exact HB.out | apply Qc | apply Qa | apply Qb) | exact HB.out))) : w.heap.size ≤ gb49)); have n5_ := n4_; clear HO_5; clear HO_6; clear HB; have HO_5 := n0_; have HO_6 := n1_; have HB := n2_; have BK49 := n3_; have GW49 := n4_; have GE49 := n5_; clear n0_ n1_ n2_ n3_ n4_ n5_; clear hb hbox hg; obtain ⟨z23_0, z23_1, z23_2, z23_3, z23_4, z23_5, z23_6, z23_7, j23_0, j23_1, j23_2, j23_3, j23_4, j23_5, j23_6, j23_7⟩ := Lv.blks8 BK49.out) | ((with_reducible refine gate_builtin (b := .append) (xs := #[.tmp 29, .tmp 32]) rfl ?_); at_builtin; refine Kd.R_append (Kd.int .i64) (w0 := w) w.heap.size rfl (.tmp 29) (.tmp 32) 33 2 (.int .i64 0) 8 rfl Try.underlying33 info2 rfl (by decide) (by omega) u5 x5_1 ((rd_T48 l0 x7_1).f7) [.int .i64 ((rd_T48 l0 x7_1).f7)] (fun k_ => some k_ ≠ (u6 : Value).ownBlock) (fun _ => False) rfl (by first | exact (congrArg (fun n_ => Value.slice (some ⟨n_, 0, none⟩) 1 1) (by simp [World.setCell])) | (go_simp; done) | (go_simp; rfl)) ?aP (fun _ hk => hk.elim) ?aF ?aO ?aB ?aS ?aL ?_; (case aP => exact rfl); (case aB => exact (by repeat (first | (with_reducible first | exact HB.out | apply Qc | apply Qa | apply Qb | refine Qd ?_ GE49.out) | exact HB.out))); (case aF => exact (fun k_ hk => Kd.fresh' (Kd.R_lt (by (with_reducible repeat (first | apply Kd.Qn | apply Kd.Qm | apply Kd.Qo)); exact (Kd.Qw (Kd.Qx (p := ⟨gb49, 7, none⟩) (Kd.Qx (p := ⟨gb49, 6, none⟩) (Kd.Qx (p := ⟨gb49, 5, none⟩) (Kd.Qx (p := ⟨gb49, 4, none⟩) (Kd.Qx (p := ⟨gb49, 3, none⟩) (Kd.Qx (p := ⟨gb49, 2, none⟩) (Kd.Qx (p := ⟨gb49, 1, none⟩) (Kd.Qx (p := ⟨gb49, 0, none⟩) (Kd.Qai HO_6.out BK49.out (by decide)) (fun _ hk => hk.2) (.int .i64 ((rd_T48 l0 x7_1).f0))) (fun _ hk => hk.2) (.int .i64 ((rd_T48 l0 x7_1).f1))) (fun _ hk => hk.2) (.int .i64 ((rd_T48 l0 x7_1).f2))) (fun _ hk => hk.2) (.bool ((rd_T48 l0 x7_1).f3))) (fun _ hk => hk.2) (.int .i64 ((rd_T48 l0 x7_1).f4))) (fun _ hk => hk.2) (.bool ((rd_T48 l0 x7_1).f5))) (fun _ hk => hk.2) (.int .i64 ((rd_T48 l0 x7_1).f6))) (fun _ hk => hk.2) (.int .i64 ((rd_T48 l0 x7_1).f7))) (fun _ h_ => h_.1)))) k_ hk)); (case aO => exact (by (with_reducible repeat (first | apply Kd.Qn | apply Kd.Qm | apply Kd.Qo)); exact Kd.Qw (Kd.Qx (p := ⟨gb49, 7, none⟩) (Kd.Qx (p := ⟨gb49, 6, none⟩) (Kd.Qx (p := ⟨gb49, 5, none⟩) (Kd.Qx (p := ⟨gb49, 4, none⟩) (Kd.Qx (p := ⟨gb49, 3, none⟩) (Kd.Qx (p := ⟨gb49, 2, none⟩) (Kd.Qx (p := ⟨gb49, 1, none⟩) (Kd.Qx (p := ⟨gb49, 0, none⟩) (Kd.Qai HO_5.out BK49.out (by decide)) (fun _ hk => hk.2) (.int .i64 ((rd_T48 l0 x7_1).f0))) (fun _ hk => hk.2) (.int .i64 ((rd_T48 l0 x7_1).f1))) (fun _ hk => hk.2) (.int .i64 ((rd_T48 l0 x7_1).f2))) (fun _ hk => hk.2) (.bool ((rd_T48 l0 x7_1).f3))) (fun _ hk => hk.2) (.int .i64 ((rd_T48 l0 x7_1).f4))) (fun _ hk => hk.2) (.bool ((rd_T48 l0 x7_1).f5))) (fun _ hk => hk.2) (.int .i64 ((rd_T48 l0 x7_1).f6))) (fun _ hk => hk.2) (.int .i64 ((rd_T48 l0 x7_1).f7))) (fun _ hk => hk.1))); (case aS => exact (Qp (by repeat (first | (with_reducible first | exact HB.out | apply Qc | apply Qa | apply Qb | refine Qd ?_ GE49.out) | exact HB.out)))); (case aL => have := LMc12.out; omega); intro v61 w24 ho hb hg hat; rw [← Ny51.out] at ho; have n0_ := Qz.mk (Kd.R_after (ok := (fun _ => True)) (by (with_reducible repeat (first | apply Kd.Qn | apply Kd.Qm | apply Kd.Qo)); exact Kd.Qw (Kd.Qx (p := ⟨gb49, 7, none⟩) (Kd.Qx (p := ⟨gb49, 6, none⟩) (Kd.Qx (p := ⟨gb49, 5, none⟩) (Kd.Qx (p := ⟨gb49, 4, none⟩) (Kd.Qx (p := ⟨gb49, 3, none⟩) (Kd.Qx (p := ⟨gb49, 2, none⟩) (Kd.Qx (p := ⟨gb49, 1, none⟩) (Kd.Qx (p := ⟨gb49, 0, none⟩) (Kd.Qai HO_6.out BK49.out (by decide)) (fun _ hk => hk.2) (.int .i64 ((rd_T48 l0 x7_1).f0))) (fun _ hk => hk.2) (.int .i64 ((rd_T48 l0 x7_1).f1))) (fun _ hk => hk.2) (.int .i64 ((rd_T48 l0 x7_1).f2))) (fun _ hk => hk.2) (.bool ((rd_T48 l0 x7_1).f3))) (fun _ hk => hk.2) (.int .i64 ((rd_T48 l0 x7_1).f4))) (fun _ hk => hk.2) (.bool ((rd_T48 l0 x7_1).f5))) (fun _ hk => hk.2) (.int .i64 ((rd_T48 l0 x7_1).f6))) (fun _ hk => hk.2) (.int .i64 ((rd_T48 l0 x7_1).f7))) (fun _ hk => ⟨trivial, hk.1⟩)) hg hat); have n1_ := Qz.mk (blk_grown (g := gb49) (o := .cells #[.int .i64 ((rd_T48 l0 x7_1).f0), .int .i64 ((rd_T48 l0 x7_1).f1), .int .i64 ((rd_T48 l0 x7_1).f2), .bool ((rd_T48 l0 x7_1).f3), .int .i64 ((rd_T48 l0 x7_1).f4), .bool ((rd_T48 l0 x7_1).f5), .int .i64 ((rd_T48 l0 x7_1).f6), .int .i64 ((rd_T48 l0 x7_1).f7)] 48 (0, 0)) (by (with_reducible repeat (first | refine Qe ?_ _ | refine Qg ?_ | refine Qf ?_ _)); refine Qk (cs := #[.int .i64 ((rd_T48 l0 x7_1).f0), .int .i64 ((rd_T48 l0 x7_1).f1), .int .i64 ((rd_T48 l0 x7_1).f2), .bool ((rd_T48 l0 x7_1).f3), .int .i64 ((rd_T48 l0 x7_1).f4), .bool ((rd_T48 l0 x7_1).f5), .int .i64 ((rd_T48 l0 x7_1).f6), .int .i64 0]) ?_ 7 _ rfl; (with_reducible repeat (first | refine Qe ?_ _ | refine Qg ?_ | refine Qf ?_ _)); refine Qk (cs := #[.int .i64 ((rd_T48 l0 x7_1).f0), .int .i64 ((rd_T48 l0 x7_1).f1), .int .i64 ((rd_T48 l0 x7_1).f2), .bool ((rd_T48 l0 x7_1).f3), .int .i64 ((rd_T48 l0 x7_1).f4), .bool ((rd_T48 l0 x7_1).f5), .int .i64 0, .int .i64 0]) ?_ 6 _ rfl; (with_reducible repeat (first | refine Qe ?_ _ | refine Qg ?_ | refine Qf ?_ _)); refine Qk (cs := #[.int .i64 ((rd_T48 l0 x7_1).f0), .int .i64 ((rd_T48 l0 x7_1).f1), .int .i64 ((rd_T48 l0 x7_1).f2), .bool ((rd_T48 l0 x7_1).f3), .int .i64 ((rd_T48 l0 x7_1).f4), .bool false, .int .i64 0, .int .i64 0]) ?_ 5 _ rfl; (with_reducible repeat (first | refine Qe ?_ _ | refine Qg ?_ | refine Qf ?_ _)); refine Qk (cs := #[.int .i64 ((rd_T48 l0 x7_1).f0), .int .i64 ((rd_T48 l0 x7_1).f1), .int .i64 ((rd_T48 l0 x7_1).f2), .bool ((rd_T48 l0 x7_1).f3), .int .i64 0, .bool false, .int .i64 0, .int .i64 0]) ?_ 4 _ rfl; (with_reducible repeat (first | refine Qe ?_ _ | refine Qg ?_ | refine Qf ?_ _)); refine Qk (cs := #[.int .i64 ((rd_T48 l0 x7_1).f0), .int .i64 ((rd_T48 l0 x7_1).f1), .int .i64 ((rd_T48 l0 x7_1).f2), .bool false, .int .i64 0, .bool false, .int .i64 0, .int .i64 0]) ?_ 3 _ rfl; (with_reducible repeat (first | refine Qe ?_ _ | refine Qg ?_ | refine Qf ?_ _)); refine Qk (cs := #[.int .i64 ((rd_T48 l0 x7_1).f0), .int .i64 ((rd_T48 l0 x7_1).f1), .int .i64 0, .bool false, .int .i64 0, .bool false, .int .i64 0, .int .i64 0]) ?_ 2 _ rfl; (with_reducible repeat (first | refine Qe ?_ _ | refine Qg ?_ | refine Qf ?_ _)); refine Qk (cs := #[.int .i64 ((rd_T48 l0 x7_1).f0), .int .i64 0, .int .i64 0, .bool false, .int .i64 0, .bool false, .int .i64 0, .int .i64 0]) ?_ 1 _ rfl; (with_reducible repeat (first | refine Qe ?_ _ | refine Qg ?_ | refine Qf ?_ _)); refine Qk (cs := #[.int .i64 0, .int .i64 0, .int .i64 0, .bool false, .int .i64 0, .bool false, .int .i64 0, .int .i64 0]) ?_ 0 _ rfl; (with_reducible repeat (first | refine Qe ?_ _ | refine Qg ?_ | refine Qf ?_ _)); exact BK49.out) hg (Kd.R_ne HO_5.out BK49.out (by decide))); have n2_ := Qz.mk (hb); have n3_ := Qz.mk (ho); clear HO_6; clear BK49; clear HB; clear HO_5; have HO_6 := n0_; have BK49 := n1_; have HB := n2_; have HO52 := n3_; clear n0_ n1_ n2_ n3_; clear ho hb hg hat; obtain ⟨z25_0, z25_1, z25_2, z25_3, z25_4, z25_5, z25_6, z25_7, j25_0, j25_1, j25_2, j25_3, j25_4, j25_5, j25_6, j25_7⟩ := Lv.blks8 BK49.out; obtain ⟨Ao26, co26, eo26⟩ := Kd.R_slice HO52.out; subst eo26) | (go_at_call 87; (with_reducible refine (Zsl1Has.calls k1 _ _ y51 (wrap64 (x7_1 + 1)) false _ ?side1 ?side2 A14.out).mono ?_); (case side1 => repeat (first | exact (Kd.Qaj HO52.out).2.2 | (with_reducible first | refine Kd.Qaa ?_ _ | refine Kd.Qz ?_ _ | refine Kd.Qab ?_))); (case side2 => exact (Kd.Qaj HO52.out).2.1); rintro e w' ⟨rfl, ⟨nd, rfl⟩⟩) | ((with_reducible refine gate_builtin (b := .append) (xs := #[.tmp 44, .tmp 47]) rfl ?_); at_builtin; refine Kd.R_append (Kd.int .i64) (w0 := w) w.heap.size rfl (.tmp 44) (.tmp 47) 33 2 (.int .i64 0) 8 rfl Try.underlying33 info2 rfl (by decide) (by omega) u6 x6_1 (wrap64 (x7_1 + 1)) [.int .i64 (wrap64 (x7_1 + 1))] (fun k_ => some k_ ≠ (.slice Ao26 y51.length co26 : Value).ownBlock) (fun _ => False) rfl rfl ?aP (fun _ hk => hk.elim) ?aF ?aO ?aB ?aS ?aL ?_; (case aP => exact rfl); (case aB => exact (by repeat (first | (with_reducible first | exact HB.out | apply Qc | apply Qa | apply Qb | refine Qd ?_ GE49.out) | exact HB.out))); (case aF => exact (fun k_ hk => Kd.fresh' (Kd.R_lt (by (with_reducible repeat (first | apply Kd.Qn | apply Kd.Qm | apply Kd.Qo)); exact HO52.out)) k_ hk)); (case aO => exact (by (with_reducible repeat (first | apply Kd.Qn | apply Kd.Qm | apply Kd.Qo)); exact Kd.Qw HO_6.out (fun _ hk => hk.2))); (case aS => exact (Qp (by repeat (first | (with_reducible first | exact HB.out | apply Qc | apply Qa | apply Qb | refine Qd ?_ GE49.out) | exact HB.out)))); (case aL => have := LMc21.out; omega); intro v70 w27 ho hb hg hat; rw [← Ny56.out] at ho; have n0_ := Qz.mk (blk_grown (g := gb49) (o := .cells #[.int .i64 ((rd_T48 l0 x7_1).f0), .int .i64 ((rd_T48 l0 x7_1).f1), .int .i64 ((rd_T48 l0 x7_1).f2), .bool ((rd_T48 l0 x7_1).f3), .int .i64 ((rd_T48 l0 x7_1).f4), .bool ((rd_T48 l0 x7_1).f5), .int .i64 ((rd_T48 l0 x7_1).f6), .int .i64 ((rd_T48 l0 x7_1).f7)] 48 (0, 0)) (by (with_reducible repeat (first | refine Qe ?_ _ | refine Qg ?_ | refine Qf ?_ _)); exact BK49.out) hg (Kd.R_ne HO_6.out BK49.out (by decide))); have n1_ := Qz.mk (Kd.R_after (ok := (fun _ => True)) (by (with_reducible repeat (first | apply Kd.Qn | apply Kd.Qm | apply Kd.Qo)); exact Kd.Qw HO52.out (fun _ hk => ⟨trivial, hk⟩)) hg hat); have n2_ := Qz.mk (hb); have n3_ := Qz.mk (ho); clear BK49; clear HO52; clear HB; clear HO_6; have BK49 := n0_; have HO52 := n1_; have HB := n2_; have HO66 := n3_; clear n0_ n1_ n2_ n3_; clear ho hb hg hat))
           go_roundg k1
           case measure => have := HK1.out; omega
           case rel => exact ⟨(y51), (y56), (wrap64 (x7_1 - 1)), (by first | rfl | (simp; done) | (simp [*]; done)), H', ⟨by have := HK1.out; omega⟩, ⟨by (with_reducible repeat (first | apply Kd.Qn | apply Kd.Qm | apply Kd.Qo)); exact Kd.Qw HO52.out (fun _ hk => hk.2)⟩, ⟨by (with_reducible repeat (first | apply Kd.Qn | apply Kd.Qm | apply Kd.Qo)); exact HO66.out⟩, ⟨by repeat (first | (with_reducible first | exact HB.out | apply Qc | apply Qa | apply Qb | refine Qd ?_ GE49.out) | exact HB.out)⟩⟩
          rw [if_neg c21] at H
          exact absurd H (by simp)
         rw [if_neg c13] at H
         have c13b0 : (((rd_T48 l0 x7_1).f0) == 2) = false := beq_eq_false_iff_ne.mpr c13
         have c13b1 : (((rd_T48 l0 x7_1).f0) != 2) = true := bne_iff_ne.mpr c13
         have H' := Qz.mk H
         clear H
         have p385 : 0 ≤ (x7_1 : Int) := of_decide_eq_true (by first | (with_reducible assumption) | assumption)
         have q50 : x7_1 < (l0.length : Int) := of_decide_eq_true (by first | (with_reducible assumption) | assumption)
         obtain ⟨ad50, e385, hx50_0, hx50_1, hx50_2, hx50_3, hx50_4, hx50_5, hx50_6, hx50_7⟩ := at_T48 (Kd.Qac HR0.out HB.out) x7_1 p385 q50
         cases e385
         replace p385 := eq_true p385
         replace q50 := eq_true q50
         go_wp2_with (first | ((with_reducible refine gate_dst (N := 8) rfl ?_); refine box_event ?hg (N := 8) ?hd (cs := #[.int .i64 0, .int .i64 0, .int .i64 0, .bool false, .int .i64 0, .bool false, .int .i64 0, .int .i64 0]) (t := 48) ?hr ?_; (case hd => rfl); (case hg => rfl); (case hr => first | (go_simp; done) | (go_simp; rfl)); intro gb49 hg w28 hbox hb; have n0_ := Qz.mk (Kd.Qy (by (with_reducible repeat (first | apply Kd.Qn | apply Kd.Qm | apply Kd.Qo)); exact HO_5.out) hb); have n1_ := Qz.mk (Kd.Qy (by (with_reducible repeat (first | apply Kd.Qn | apply Kd.Qm | apply Kd.Qo)); exact HO_6.out) hb); have n2_ := Qz.mk (Qq (by repeat (first | (with_reducible first | exact HB.out | apply Qc | apply Qa | apply Qb) | exact HB.out)) hb); have n3_ := Qz.mk (hbox); have n4_ := Qz.mk ((by rw [hg]; exact (Qp (by repeat (first | (with_reducible first | exact HB.out | apply Qc | apply Qa | apply Qb) | exact HB.out))) : w.heap.size ≤ gb49)); have n5_ := n4_; clear HO_5; clear HO_6; clear HB; have HO_5 := n0_; have HO_6 := n1_; have HB := n2_; have BK49 := n3_; have GW49 := n4_; have GE49 := n5_; clear n0_ n1_ n2_ n3_ n4_ n5_; clear hb hbox hg; obtain ⟨z29_0, z29_1, z29_2, z29_3, z29_4, z29_5, z29_6, z29_7, j29_0, j29_1, j29_2, j29_3, j29_4, j29_5, j29_6, j29_7⟩ := Lv.blks8 BK49.out) | ((with_reducible refine gate_builtin (b := .append) (xs := #[.tmp 29, .tmp 32]) rfl ?_); at_builtin; refine Kd.R_append (Kd.int .i64) (w0 := w) w.heap.size rfl (.tmp 29) (.tmp 32) 33 2 (.int .i64 0) 8 rfl Try.underlying33 info2 rfl (by decide) (by omega) u5 x5_1 ((rd_T48 l0 x7_1).f7) [.int .i64 ((rd_T48 l0 x7_1).f7)] (fun k_ => some k_ ≠ (u6 : Value).ownBlock) (fun _ => False) rfl (by first | exact (congrArg (fun n_ => Value.slice (some ⟨n_, 0, none⟩) 1 1) (by simp [World.setCell])) | (go_simp; done) | (go_simp; rfl)) ?aP (fun _ hk => hk.elim) ?aF ?aO ?aB ?aS ?aL ?_; (case aP => exact rfl); (case aB => exact (by repeat (first | (with_reducible first | exact HB.out | apply Qc | apply Qa | apply Qb | refine Qd ?_ GE49.out) | exact HB.out))); (case aF => exact (fun k_ hk => Kd.fresh' (Kd.R_lt (by (with_reducible repeat (first | apply Kd.Qn | apply Kd.Qm | apply Kd.Qo)); exact (Kd.Qw (Kd.Qx (p := ⟨gb49, 7, none⟩) (Kd.Qx (p := ⟨gb49, 6, none⟩) (Kd.Qx (p := ⟨gb49, 5, none⟩) (Kd.Qx (p := ⟨gb49, 4, none⟩) (Kd.Qx (p := ⟨gb49, 3, none⟩) (Kd.Qx (p := ⟨gb49, 2, none⟩) (Kd.Qx (p := ⟨gb49, 1, none⟩) (Kd.Qx (p := ⟨gb49, 0, none⟩) (Kd.Qai HO_6.out BK49.out (by decide)) (fun _ hk => hk.2) (.int .i64 ((rd_T48 l0 x7_1).f0))) (fun _ hk => hk.2) (.int .i64 ((rd_T48 l0 x7_1).f1))) (fun _ hk => hk.2) (.int .i64 ((rd_T48 l0 x7_1).f2))) (fun _ hk => hk.2) (.bool ((rd_T48 l0 x7_1).f3))) (fun _ hk => hk.2) (.int .i64 ((rd_T48 l0 x7_1).f4))) (fun _ hk => hk.2) (.bool ((rd_T48 l0 x7_1).f5))) (fun _ hk => hk.2) (.int .i64 ((rd_T48 l0 x7_1).f6))) (fun _ hk => hk.2) (.int .i64 ((rd_T48 l0 x7_1).f7))) (fun _ h_ => h_.1)))) k_ hk)); (case aO => exact (by (with_reducible repeat (first | apply Kd.Qn | apply Kd.Qm | apply Kd.Qo)); exact Kd.Qw (Kd.Qx (p := ⟨gb49, 7, none⟩) (Kd.Qx (p := ⟨gb49, 6, none⟩) (Kd.Qx (p := ⟨gb49, 5, none⟩) (Kd.Qx (p := ⟨gb49, 4, none⟩) (Kd.Qx (p := ⟨gb49, 3, none⟩) (Kd.Qx (p := ⟨gb49, 2, none⟩) (Kd.Qx (p := ⟨gb49, 1, none⟩) (Kd.Qx (p := ⟨gb49, 0, none⟩) (Kd.Qai HO_5.out BK49.out (by decide)) (fun _ hk => hk.2) (.int .i64 ((rd_T48 l0 x7_1).f0))) (fun _ hk => hk.2) (.int .i64 ((rd_T48 l0 x7_1).f1))) (fun _ hk => hk.2) (.int .i64 ((rd_T48 l0 x7_1).f2))) (fun _ hk => hk.2) (.bool ((rd_T48 l0 x7_1).f3))) (fun _ hk => hk.2) (.int .i64 ((rd_T48 l0 x7_1).f4))) (fun _ hk => hk.2) (.bool ((rd_T48 l0 x7_1).f5))) (fun _ hk => hk.2) (.int .i64 ((rd_T48 l0 x7_1).f6))) (fun _ hk => hk.2) (.int .i64 ((rd_T48 l0 x7_1).f7))) (fun _ hk => hk.1))); (case aS => exact (Qp (by repeat (first | (with_reducible first | exact HB.out | apply Qc | apply Qa | apply Qb | refine Qd ?_ GE49.out) | exact HB.out)))); (case aL => have := LMc12.out; omega); intro v61 w30 ho hb hg hat; rw [← Ny51.out] at ho; have n0_ := Qz.mk (Kd.R_after (ok := (fun _ => True)) (by (with_reducible repeat (first | apply Kd.Qn | apply Kd.Qm | apply Kd.Qo)); exact Kd.Qw (Kd.Qx (p := ⟨gb49, 7, none⟩) (Kd.Qx (p := ⟨gb49, 6, none⟩) (Kd.Qx (p := ⟨gb49, 5, none⟩) (Kd.Qx (p := ⟨gb49, 4, none⟩) (Kd.Qx (p := ⟨gb49, 3, none⟩) (Kd.Qx (p := ⟨gb49, 2, none⟩) (Kd.Qx (p := ⟨gb49, 1, none⟩) (Kd.Qx (p := ⟨gb49, 0, none⟩) (Kd.Qai HO_6.out BK49.out (by decide)) (fun _ hk => hk.2) (.int .i64 ((rd_T48 l0 x7_1).f0))) (fun _ hk => hk.2) (.int .i64 ((rd_T48 l0 x7_1).f1))) (fun _ hk => hk.2) (.int .i64 ((rd_T48 l0 x7_1).f2))) (fun _ hk => hk.2) (.bool ((rd_T48 l0 x7_1).f3))) (fun _ hk => hk.2) (.int .i64 ((rd_T48 l0 x7_1).f4))) (fun _ hk => hk.2) (.bool ((rd_T48 l0 x7_1).f5))) (fun _ hk => hk.2) (.int .i64 ((rd_T48 l0 x7_1).f6))) (fun _ hk => hk.2) (.int .i64 ((rd_T48 l0 x7_1).f7))) (fun _ hk => ⟨trivial, hk.1⟩)) hg hat); have n1_ := Qz.mk (blk_grown (g := gb49) (o := .cells #[.int .i64 ((rd_T48 l0 x7_1).f0), .int .i64 ((rd_T48 l0 x7_1).f1), .int .i64 ((rd_T48 l0 x7_1).f2), .bool ((rd_T48 l0 x7_1).f3), .int .i64 ((rd_T48 l0 x7_1).f4), .bool ((rd_T48 l0 x7_1).f5), .int .i64 ((rd_T48 l0 x7_1).f6), .int .i64 ((rd_T48 l0 x7_1).f7)] 48 (0, 0)) (by (with_reducible repeat (first | refine Qe ?_ _ | refine Qg ?_ | refine Qf ?_ _)); refine Qk (cs := #[.int .i64 ((rd_T48 l0 x7_1).f0), .int .i64 ((rd_T48 l0 x7_1).f1), .int .i64 ((rd_T48 l0 x7_1).f2), .bool ((rd_T48 l0 x7_1).f3), .int .i64 ((rd_T48 l0 x7_1).f4), .bool ((rd_T48 l0 x7_1).f5), .int .i64 ((rd_T48 l0 x7_1).f6), .int .i64 0]) ?_ 7 _ rfl; (with_reducible repeat (first | refine Qe ?_ _ | refine Qg ?_ | refine Qf ?_ _)); refine Qk (cs := #[.int .i64 ((rd_T48 l0 x7_1).f0), .int .i64 ((rd_T48 l0 x7_1).f1), .int .i64 ((rd_T48 l0 x7_1).f2), .bool ((rd_T48 l0 x7_1).f3), .int .i64 ((rd_T48 l0 x7_1).f4), .bool ((rd_T48 l0 x7_1).f5), .int .i64 0, .int .i64 0]) ?_ 6 _ rfl; (with_reducible repeat (first | refine Qe ?_ _ | refine Qg ?_ | refine Qf ?_ _)); refine Qk (cs := #[.int .i64 ((rd_T48 l0 x7_1).f0), .int .i64 ((rd_T48 l0 x7_1).f1), .int .i64 ((rd_T48 l0 x7_1).f2), .bool ((rd_T48 l0 x7_1).f3), .int .i64 ((rd_T48 l0 x7_1).f4), .bool false, .int .i64 0, .int .i64 0]) ?_ 5 _ rfl; (with_reducible repeat (first | refine Qe ?_ _ | refine Qg ?_ | refine Qf ?_ _)); refine Qk (cs := #[.int .i64 ((rd_T48 l0 x7_1).f0), .int .i64 ((rd_T48 l0 x7_1).f1), .int .i64 ((rd_T48 l0 x7_1).f2), .bool ((rd_T48 l0 x7_1).f3), .int .i64 0, .bool false, .int .i64 0, .int .i64 0]) ?_ 4 _ rfl; (with_reducible repeat (first | refine Qe ?_ _ | refine Qg ?_ | refine Qf ?_ _)); refine Qk (cs := #[.int .i64 ((rd_T48 l0 x7_1).f0), .int .i64 ((rd_T48 l0 x7_1).f1), .int .i64 ((rd_T48 l0 x7_1).f2), .bool false, .int .i64 0, .bool false, .int .i64 0, .int .i64 0]) ?_ 3 _ rfl; (with_reducible repeat (first | refine Qe ?_ _ | refine Qg ?_ | refine Qf ?_ _)); refine Qk (cs := #[.int .i64 ((rd_T48 l0 x7_1).f0), .int .i64 ((rd_T48 l0 x7_1).f1), .int .i64 0, .bool false, .int .i64 0, .bool false, .int .i64 0, .int .i64 0]) ?_ 2 _ rfl; (with_reducible repeat (first | refine Qe ?_ _ | refine Qg ?_ | refine Qf ?_ _)); refine Qk (cs := #[.int .i64 ((rd_T48 l0 x7_1).f0), .int .i64 0, .int .i64 0, .bool false, .int .i64 0, .bool false, .int .i64 0, .int .i64 0]) ?_ 1 _ rfl; (with_reducible repeat (first | refine Qe ?_ _ | refine Qg ?_ | refine Qf ?_ _)); refine Qk (cs := #[.int .i64 0, .int .i64 0, .int .i64 0, .bool false, .int .i64 0, .bool false, .int .i64 0, .int .i64 0]) ?_ 0 _ rfl; (with_reducible repeat (first | refine Qe ?_ _ | refine Qg ?_ | refine Qf ?_ _)); exact BK49.out) hg (Kd.R_ne HO_5.out BK49.out (by decide))); have n2_ := Qz.mk (hb); have n3_ := Qz.mk (ho); clear HO_6; clear BK49; clear HB; clear HO_5; have HO_6 := n0_; have BK49 := n1_; have HB := n2_; have HO52 := n3_; clear n0_ n1_ n2_ n3_; clear ho hb hg hat; obtain ⟨z31_0, z31_1, z31_2, z31_3, z31_4, z31_5, z31_6, z31_7, j31_0, j31_1, j31_2, j31_3, j31_4, j31_5, j31_6, j31_7⟩ := Lv.blks8 BK49.out))
         go_roundg k1
         case measure => have := HK1.out; omega
         case rel => exact ⟨(y51), (x6_1), (wrap64 (x7_1 - 1)), (by first | rfl | (simp; done) | (simp [*]; done)), H', ⟨by have := HK1.out; omega⟩, ⟨by (with_reducible repeat (first | apply Kd.Qn | apply Kd.Qm | apply Kd.Qo)); exact HO52.out⟩, ⟨by (with_reducible repeat (first | apply Kd.Qn | apply Kd.Qm | apply Kd.Qo)); exact Kd.Qw HO_6.out (fun _ hk => hk.2)⟩, ⟨by repeat (first | (with_reducible first | exact HB.out | apply Qc | apply Qa | apply Qb | refine Qd ?_ GE49.out) | exact HB.out)⟩⟩
        rw [if_neg c12] at H
        exact absurd H (by simp)
       rw [if_neg c11] at H
       have c11b0 : (((rd_T48 l0 x7_1).f0) == 5) = false := beq_eq_false_iff_ne.mpr c11
       have c11b1 : (((rd_T48 l0 x7_1).f0) != 5) = true := bne_iff_ne.mpr c11
       by_cases c32 : ((rd_T48 l0 x7_1).f0) = 2
       ·rw [if_pos c32] at H
        have c32b0 : (((rd_T48 l0 x7_1).f0) == 2) = true := beq_iff_eq.mpr c32
        have c32b1 : (((rd_T48 l0 x7_1).f0) != 2) = false := bne_eq_false_iff_eq.mpr c32
        clear c32
        replace H := Qj9 H
        obtain ⟨t62, A63, H⟩ := H
        replace H : (if t62 = true then (Zsl3Back.l0 k1 l0 a1 x5_1 x6_1 (wrap64 (x7_1 - 1))) else (if x6_1.length < 17592186044416 then (Zsl3Back.l0 k1 l0 a1 x5_1 (x6_1 ++ [wrap64 (x7_1 + 1)]) (wrap64 (x7_1 - 1))) else (none))) = some r := H
        have A33 := Qz.mk A63
        clear A63
        by_cases c34 : t62 = true
        ·subst c34
         have H1 : (Zsl3Back.l0 k1 l0 a1 x5_1 x6_1 (wrap64 (x7_1 - 1))) = some r := by rw [if_pos rfl] at H; exact H
         clear H
         have H := H1
         clear H1
         have H' := Qz.mk H
         clear H
         have p385 : 0 ≤ (x7_1 : Int) := of_decide_eq_true (by first | (with_reducible assumption) | assumption)
         have q50 : x7_1 < (l0.length : Int) := of_decide_eq_true (by first | (with_reducible assumption) | assumption)
         obtain ⟨ad50, e385, hx50_0, hx50_1, hx50_2, hx50_3, hx50_4, hx50_5, hx50_6, hx50_7⟩ := at_T48 (Kd.Qac HR0.out HB.out) x7_1 p385 q50
         cases e385
         replace p385 := eq_true p385
         replace q50 := eq_true q50
         go_wp2_with (first | ((with_reducible refine gate_dst (N := 8) rfl ?_); refine box_event ?hg (N := 8) ?hd (cs := #[.int .i64 0, .int .i64 0, .int .i64 0, .bool false, .int .i64 0, .bool false, .int .i64 0, .int .i64 0]) (t := 48) ?hr ?_; (case hd => rfl); (case hg => rfl); (case hr => first | (go_simp; done) | (go_simp; rfl)); intro gb49 hg w35 hbox hb; have n0_ := Qz.mk (Kd.Qy (by (with_reducible repeat (first | apply Kd.Qn | apply Kd.Qm | apply Kd.Qo)); exact HO_5.out) hb); have n1_ := Qz.mk (Kd.Qy (by (with_reducible repeat (first | apply Kd.Qn | apply Kd.Qm | apply Kd.Qo)); exact HO_6.out) hb); have n2_ := Qz.mk (Qq (by repeat (first | (with_reducible first | exact HB.out | apply Qc | apply Qa | apply Qb) | exact HB.out)) hb); have n3_ := Qz.mk (hbox); have n4_ := Qz.mk ((by rw [hg]; exact (Qp (by repeat (first | (with_reducible first | exact HB.out | apply Qc | apply Qa | apply Qb) | exact HB.out))) : w.heap.size ≤ gb49)); have n5_ := n4_; clear HO_5; clear HO_6; clear HB; have HO_5 := n0_; have HO_6 := n1_; have HB := n2_; have BK49 := n3_; have GW49 := n4_; have GE49 := n5_; clear n0_ n1_ n2_ n3_ n4_ n5_; clear hb hbox hg; obtain ⟨z36_0, z36_1, z36_2, z36_3, z36_4, z36_5, z36_6, z36_7, j36_0, j36_1, j36_2, j36_3, j36_4, j36_5, j36_6, j36_7⟩ := Lv.blks8 BK49.out; obtain ⟨Ao37, co37, eo37⟩ := Kd.R_slice HO_5.out; subst eo37) | (go_at_call 87; (with_reducible refine (Zsl1Has.calls k1 _ _ x5_1 (wrap64 (x7_1 + 1)) true _ ?side1 ?side2 A33.out).mono ?_); (case side1 => refine (Kd.Qaj (e := 2) (base := w.heap.size) (ok := fun k_ => some k_ ≠ (u6 : Value).ownBlock) (n := x5_1.length) (c := co37) ?_).2.2; exact (by (with_reducible repeat (first | apply Kd.Qn | apply Kd.Qm | apply Kd.Qo)); exact (Kd.Qw (Kd.Qx (p := ⟨gb49, 7, none⟩) (Kd.Qx (p := ⟨gb49, 6, none⟩) (Kd.Qx (p := ⟨gb49, 5, none⟩) (Kd.Qx (p := ⟨gb49, 4, none⟩) (Kd.Qx (p := ⟨gb49, 3, none⟩) (Kd.Qx (p := ⟨gb49, 2, none⟩) (Kd.Qx (p := ⟨gb49, 1, none⟩) (Kd.Qx (p := ⟨gb49, 0, none⟩) (Kd.Qai HO_5.out BK49.out (by decide)) (fun _ hk => hk.2) (.int .i64 ((rd_T48 l0 x7_1).f0))) (fun _ hk => hk.2) (.int .i64 ((rd_T48 l0 x7_1).f1))) (fun _ hk => hk.2) (.int .i64 ((rd_T48 l0 x7_1).f2))) (fun _ hk => hk.2) (.bool ((rd_T48 l0 x7_1).f3))) (fun _ hk => hk.2) (.int .i64 ((rd_T48 l0 x7_1).f4))) (fun _ hk => hk.2) (.bool ((rd_T48 l0 x7_1).f5))) (fun _ hk => hk.2) (.int .i64 ((rd_T48 l0 x7_1).f6))) (fun _ hk => hk.2) (.int .i64 ((rd_T48 l0 x7_1).f7))) (fun _ h_ => h_.1)))); (case side2 => exact (Kd.Qaj HO_5.out).2.1); rintro e w' ⟨rfl, ⟨nd, rfl⟩⟩))
         go_roundg k1
         case measure => have := HK1.out; omega
         case rel => exact ⟨(x5_1), (x6_1), (wrap64 (x7_1 - 1)), (by first | rfl | (simp; done) | (simp [*]; done)), H', ⟨by have := HK1.out; omega⟩, ⟨by (with_reducible repeat (first | apply Kd.Qn | apply Kd.Qm | apply Kd.Qo)); exact Kd.Qw (Kd.Qx (p := ⟨gb49, 7, none⟩) (Kd.Qx (p := ⟨gb49, 6, none⟩) (Kd.Qx (p := ⟨gb49, 5, none⟩) (Kd.Qx (p := ⟨gb49, 4, none⟩) (Kd.Qx (p := ⟨gb49, 3, none⟩) (Kd.Qx (p := ⟨gb49, 2, none⟩) (Kd.Qx (p := ⟨gb49, 1, none⟩) (Kd.Qx (p := ⟨gb49, 0, none⟩) (Kd.Qai HO_5.out BK49.out (by decide)) (fun _ hk => hk.2) (.int .i64 ((rd_T48 l0 x7_1).f0))) (fun _ hk => hk.2) (.int .i64 ((rd_T48 l0 x7_1).f1))) (fun _ hk => hk.2) (.int .i64 ((rd_T48 l0 x7_1).f2))) (fun _ hk => hk.2) (.bool ((rd_T48 l0 x7_1).f3))) (fun _ hk => hk.2) (.int .i64 ((rd_T48 l0 x7_1).f4))) (fun _ hk => hk.2) (.bool ((rd_T48 l0 x7_1).f5))) (fun _ hk => hk.2) (.int .i64 ((rd_T48 l0 x7_1).f6))) (fun _ hk => hk.2) (.int .i64 ((rd_T48 l0 x7_1).f7))) (fun _ hk => hk.1)⟩, ⟨by (with_reducible repeat (first | apply Kd.Qn | apply Kd.Qm | apply Kd.Qo)); exact Kd.Qw (Kd.Qx (p := ⟨gb49, 7, none⟩) (Kd.Qx (p := ⟨gb49, 6, none⟩) (Kd.Qx (p := ⟨gb49, 5, none⟩) (Kd.Qx (p := ⟨gb49, 4, none⟩) (Kd.Qx (p := ⟨gb49, 3, none⟩) (Kd.Qx (p := ⟨gb49, 2, none⟩) (Kd.Qx (p := ⟨gb49, 1, none⟩) (Kd.Qx (p := ⟨gb49, 0, none⟩) (Kd.Qai HO_6.out BK49.out (by decide)) (fun _ hk => hk.2) (.int .i64 ((rd_T48 l0 x7_1).f0))) (fun _ hk => hk.2) (.int .i64 ((rd_T48 l0 x7_1).f1))) (fun _ hk => hk.2) (.int .i64 ((rd_T48 l0 x7_1).f2))) (fun _ hk => hk.2) (.bool ((rd_T48 l0 x7_1).f3))) (fun _ hk => hk.2) (.int .i64 ((rd_T48 l0 x7_1).f4))) (fun _ hk => hk.2) (.bool ((rd_T48 l0 x7_1).f5))) (fun _ hk => hk.2) (.int .i64 ((rd_T48 l0 x7_1).f6))) (fun _ hk => hk.2) (.int .i64 ((rd_T48 l0 x7_1).f7))) (fun _ hk => hk.1)⟩, ⟨by repeat (first | (with_reducible first | exact HB.out | apply Qc | apply Qa | apply Qb | refine Qd ?_ GE49.out) | exact HB.out)⟩⟩
        replace c34 := Bool.eq_false_iff.mpr c34
        subst c34
        have H1 : (if x6_1.length < 17592186044416 then (Zsl3Back.l0 k1 l0 a1 x5_1 (x6_1 ++ [wrap64 (x7_1 + 1)]) (wrap64 (x7_1 - 1))) else (none)) = some r := by rw [if_neg (show ¬ (false = true) by decide)] at H; exact H
        clear H
        have H := H1
        clear H1
        by_cases c38 : x6_1.length < 17592186044416
        ·rw [if_pos c38] at H
         have LMc38 := Qz.mk c38
         clear c38
         obtain ⟨y57, hy57⟩ : ∃ y_ : List Int, y_ = (x6_1 ++ [wrap64 (x7_1 + 1)]) := ⟨_, rfl⟩
         replace H : (Zsl3Back.l0 k1 l0 a1 x5_1 y57 (wrap64 (x7_1 - 1))) = some r := by first | (rw [hy57]; with_reducible exact H) | (have H2_ := (Option.bind_some _ _).symm.trans H; rw [hy57]; with_reducible exact H2_) | (have H2_ := (Option.bind_some _ _).symm.trans H; with_reducible exact H2_) | with_reducible exact H | (rw [hy57]; exact H) | exact H
         have Ny57 := Qz.mk hy57
         clear hy57
         have H' := Qz.mk H
         clear H
         have p385 : 0 ≤ (x7_1 : Int) := of_decide_eq_true (by first | (with_reducible assumption) | assumption)
         have q50 : x7_1 < (l0.length : Int) := of_decide_eq_true (by first | (with_reducible assumption) | assumption)
         obtain ⟨ad50, e385, hx50_0, hx50_1, hx50_2, hx50_3, hx50_4, hx50_5, hx50_6, hx50_7⟩ := at_T48 (Kd.Qac HR0.out HB.out) x7_1 p385 q50
         cases e385
         replace p385 := eq_true p385
         replace q50 := eq_true q50
         go_wp2_with (first | ((with_reducible refine gate_dst (N := 8) rfl ?_); refine box_event ?hg (N := 8) ?hd (cs := #[.int .i64 0, .int .i64 0, .int .i64 0, .bool false, .int .i64 0, .bool false, .int .i64 0, .int .i64 0]) (t := 48) ?hr ?_; (case hd => rfl); (case hg => rfl); (case hr => first | (go_simp; done) | (go_simp; rfl)); intro gb49 hg w39 hbox hb; have n0_ := Qz.mk (Kd.Qy (by (with_reducible repeat (first | apply Kd.Qn | apply Kd.Qm | apply Kd.Qo)); exact HO_5.out) hb); have n1_ := Qz.mk (Kd.Qy (by (with_reducible repeat (first | apply Kd.Qn | apply Kd.Qm | apply Kd.Qo)); exact HO_6.out) hb); have n2_ := Qz.mk (Qq (by repeat (first | (with_reducible first | exact HB.out | apply Qc | apply Qa | apply Qb) | exact HB.out)) hb); have n3_ := Qz.mk (hbox); have n4_ := Qz.mk ((by rw [hg]; exact (Qp (by repeat (first | (with_reducible first | exact HB.out | apply Qc | apply Qa | apply Qb) | exact HB.out))) : w.heap.size ≤ gb49)); have n5_ := n4_; clear HO_5; clear HO_6; clear HB; have HO_5 := n0_; have HO_6 := n1_; have HB := n2_; have BK49 := n3_; have GW49 := n4_; have GE49 := n5_; clear n0_ n1_ n2_ n3_ n4_ n5_; clear hb hbox hg; obtain ⟨z40_0, z40_1, z40_2, z40_3, z40_4, z40_5, z40_6, z40_7, j40_0, j40_1, j40_2, j40_3, j40_4, j40_5, j40_6, j40_7⟩ := Lv.blks8 BK49.out; obtain ⟨Ao41, co41, eo41⟩ := Kd.R_slice HO_5.out; subst eo41) | (go_at_call 87; (with_reducible refine (Zsl1Has.calls k1 _ _ x5_1 (wrap64 (x7_1 + 1)) false _ ?side1 ?side2 A33.out).mono ?_); (case side1 => refine (Kd.Qaj (e := 2) (base := w.heap.size) (ok := fun k_ => some k_ ≠ (u6 : Value).ownBlock) (n := x5_1.length) (c := co41) ?_).2.2; exact (by (with_reducible repeat (first | apply Kd.Qn | apply Kd.Qm | apply Kd.Qo)); exact (Kd.Qw (Kd.Qx (p := ⟨gb49, 7, none⟩) (Kd.Qx (p := ⟨gb49, 6, none⟩) (Kd.Qx (p := ⟨gb49, 5, none⟩) (Kd.Qx (p := ⟨gb49, 4, none⟩) (Kd.Qx (p := ⟨gb49, 3, none⟩) (Kd.Qx (p := ⟨gb49, 2, none⟩) (Kd.Qx (p := ⟨gb49, 1, none⟩) (Kd.Qx (p := ⟨gb49, 0, none⟩) (Kd.Qai HO_5.out BK49.out (by decide)) (fun _ hk => hk.2) (.int .i64 ((rd_T48 l0 x7_1).f0))) (fun _ hk => hk.2) (.int .i64 ((rd_T48 l0 x7_1).f1))) (fun _ hk => hk.2) (.int .i64 ((rd_T48 l0 x7_1).f2))) (fun _ hk => hk.2) (.bool ((rd_T48 l0 x7_1).f3))) (fun _ hk => hk.2) (.int .i64 ((rd_T48 l0 x7_1).f4))) (fun _ hk => hk.2) (.bool ((rd_T48 l0 x7_1).f5))) (fun _ hk => hk.2) (.int .i64 ((rd_T48 l0 x7_1).f6))) (fun _ hk => hk.2) (.int .i64 ((rd_T48 l0 x7_1).f7))) (fun _ h_ => h_.1)))); (case side2 => exact (Kd.Qaj HO_5.out).2.1); rintro e w' ⟨rfl, ⟨nd, rfl⟩⟩) | ((with_reducible refine gate_builtin (b := .append) (xs := #[.tmp 44, .tmp 47]) rfl ?_); at_builtin; refine Kd.R_append (Kd.int .i64) (w0 := w) w.heap.size rfl (.tmp 44) (.tmp 47) 33 2 (.int .i64 0) 8 rfl Try.underlying33 info2 rfl (by decide) (by omega) u6 x6_1 (wrap64 (x7_1 + 1)) [.int .i64 (wrap64 (x7_1 + 1))] (fun k_ => some k_ ≠ (.slice Ao41 x5_1.length co41 : Value).ownBlock) (fun _ => False) rfl (by first | exact (congrArg (fun n_ => Value.slice (some ⟨n_, 0, none⟩) 1 1) (by simp [World.setCell])) | (go_simp; done) | (go_simp; rfl)) ?aP (fun _ hk => hk.elim) ?aF ?aO ?aB ?aS ?aL ?_; (case aP => exact rfl); (case aB => exact (by repeat (first | (with_reducible first | exact HB.out | apply Qc | apply Qa | apply Qb | refine Qd ?_ GE49.out) | exact HB.out))); (case aF => exact (fun k_ hk => Kd.fresh' (Kd.R_lt (by (with_reducible repeat (first | apply Kd.Qn | apply Kd.Qm | apply Kd.Qo)); exact (Kd.Qw (Kd.Qx (p := ⟨gb49, 7, none⟩) (Kd.Qx (p := ⟨gb49, 6, none⟩) (Kd.Qx (p := ⟨gb49, 5, none⟩) (Kd.Qx (p := ⟨gb49, 4, none⟩) (Kd.Qx (p := ⟨gb49, 3, none⟩) (Kd.Qx (p := ⟨gb49, 2, none⟩) (Kd.Qx (p := ⟨gb49, 1, none⟩) (Kd.Qx (p := ⟨gb49, 0, none⟩) (Kd.Qai HO_5.out BK49.out (by decide)) (fun _ hk => hk.2) (.int .i64 ((rd_T48 l0 x7_1).f0))) (fun _ hk => hk.2) (.int .i64 ((rd_T48 l0 x7_1).f1))) (fun _ hk => hk.2) (.int .i64 ((rd_T48 l0 x7_1).f2))) (fun _ hk => hk.2) (.bool ((rd_T48 l0 x7_1).f3))) (fun _ hk => hk.2) (.int .i64 ((rd_T48 l0 x7_1).f4))) (fun _ hk => hk.2) (.bool ((rd_T48 l0 x7_1).f5))) (fun _ hk => hk.2) (.int .i64 ((rd_T48 l0 x7_1).f6))) (fun _ hk => hk.2) (.int .i64 ((rd_T48 l0 x7_1).f7))) (fun _ h_ => h_.1)))) k_ hk)); (case aO => exact (by (with_reducible repeat (first | apply Kd.Qn | apply Kd.Qm | apply Kd.Qo)); exact Kd.Qw (Kd.Qx (p := ⟨gb49, 7, none⟩) (Kd.Qx (p := ⟨gb49, 6, none⟩) (Kd.Qx (p := ⟨gb49, 5, none⟩) (Kd.Qx (p := ⟨gb49, 4, none⟩) (Kd.Qx (p := ⟨gb49, 3, none⟩) (Kd.Qx (p := ⟨gb49, 2, none⟩) (Kd.Qx (p := ⟨gb49, 1, none⟩) (Kd.Qx (p := ⟨gb49, 0, none⟩) (Kd.Qai HO_6.out BK49.out (by decide)) (fun _ hk => hk.2) (.int .i64 ((rd_T48 l0 x7_1).f0))) (fun _ hk => hk.2) (.int .i64 ((rd_T48 l0 x7_1).f1))) (fun _ hk => hk.2) (.int .i64 ((rd_T48 l0 x7_1).f2))) (fun _ hk => hk.2) (.bool ((rd_T48 l0 x7_1).f3))) (fun _ hk => hk.2) (.int .i64 ((rd_T48 l0 x7_1).f4))) (fun _ hk => hk.2) (.bool ((rd_T48 l0 x7_1).f5))) (fun _ hk => hk.2) (.int .i64 ((rd_T48 l0 x7_1).f6))) (fun _ hk => hk.2) (.int .i64 ((rd_T48 l0 x7_1).f7))) (fun _ hk => hk.1))); (case aS => exact (Qp (by repeat (first | (with_reducible first | exact HB.out | apply Qc | apply Qa | apply Qb | refine Qd ?_ GE49.out) | exact HB.out)))); (case aL => have := LMc38.out; omega); intro v71 w42 ho hb hg hat; rw [← Ny57.out] at ho; have n0_ := Qz.mk (Kd.R_after (ok := (fun _ => True)) (by (with_reducible repeat (first | apply Kd.Qn | apply Kd.Qm | apply Kd.Qo)); exact Kd.Qw (Kd.Qx (p := ⟨gb49, 7, none⟩) (Kd.Qx (p := ⟨gb49, 6, none⟩) (Kd.Qx (p := ⟨gb49, 5, none⟩) (Kd.Qx (p := ⟨gb49, 4, none⟩) (Kd.Qx (p := ⟨gb49, 3, none⟩) (Kd.Qx (p := ⟨gb49, 2, none⟩) (Kd.Qx (p := ⟨gb49, 1, none⟩) (Kd.Qx (p := ⟨gb49, 0, none⟩) (Kd.Qai HO_5.out BK49.out (by decide)) (fun _ hk => hk.2) (.int .i64 ((rd_T48 l0 x7_1).f0))) (fun _ hk => hk.2) (.int .i64 ((rd_T48 l0 x7_1).f1))) (fun _ hk => hk.2) (.int .i64 ((rd_T48 l0 x7_1).f2))) (fun _ hk => hk.2) (.bool ((rd_T48 l0 x7_1).f3))) (fun _ hk => hk.2) (.int .i64 ((rd_T48 l0 x7_1).f4))) (fun _ hk => hk.2) (.bool ((rd_T48 l0 x7_1).f5))) (fun _ hk => hk.2) (.int .i64 ((rd_T48 l0 x7_1).f6))) (fun _ hk => hk.2) (.int .i64 ((rd_T48 l0 x7_1).f7))) (fun _ hk => ⟨trivial, hk.1⟩)) hg hat); have n1_ := Qz.mk (blk_grown (g := gb49) (o := .cells #[.int .i64 ((rd_T48 l0 x7_1).f0), .int .i64 ((rd_T48 l0 x7_1).f1), .int .i64 ((rd_T48 l0 x7_1).f2), .bool ((rd_T48 l0 x7_1).f3), .int .i64 ((rd_T48 l0 x7_1).f4), .bool ((rd_T48 l0 x7_1).f5), .int .i64 ((rd_T48 l0 x7_1).f6), .int .i64 ((rd_T48 l0 x7_1).f7)] 48 (0, 0)) (by (with_reducible repeat (first | refine Qe ?_ _ | refine Qg ?_ | refine Qf ?_ _)); refine Qk (cs := #[.int .i64 ((rd_T48 l0 x7_1).f0), .int .i64 ((rd_T48 l0 x7_1).f1), .int .i64 ((rd_T48 l0 x7_1).f2), .bool ((rd_T48 l0 x7_1).f3), .int .i64 ((rd_T48 l0 x7_1).f4), .bool ((rd_T48 l0 x7_1).f5), .int .i64 ((rd_T48 l0 x7_1).f6), .int .i64 0]) ?_ 7 _ rfl; (with_reducible repeat (first | refine Qe ?_ _ | refine Qg ?_ | refine Qf ?_ _)); refine Qk (cs := #[.int .i64 ((rd_T48 l0 x7_1).f0), .int .i64 ((rd_T48 l0 x7_1).f1), .int .i64 ((rd_T48 l0 x7_1).f2), .bool ((rd_T48 l0 x7_1).f3), .int .i64 ((rd_T48 l0 x7_1).f4), .bool ((rd_T48 l0 x7_1).f5), .int .i64 0, .int .i64 0]) ?_ 6 _ rfl; (with_reducible repeat (first | refine Qe ?_ _ | refine Qg ?_ | refine Qf ?_ _)); refine Qk (cs := #[.int .i64 ((rd_T48 l0 x7_1).f0), .int .i64 ((rd_T48 l0 x7_1).f1), .int .i64 ((rd_T48 l0 x7_1).f2), .bool ((rd_T48 l0 x7_1).f3), .int .i64 ((rd_T48 l0 x7_1).f4), .bool false, .int .i64 0, .int .i64 0]) ?_ 5 _ rfl; (with_reducible repeat (first | refine Qe ?_ _ | refine Qg ?_ | refine Qf ?_ _)); refine Qk (cs := #[.int .i64 ((rd_T48 l0 x7_1).f0), .int .i64 ((rd_T48 l0 x7_1).f1), .int .i64 ((rd_T48 l0 x7_1).f2), .bool ((rd_T48 l0 x7_1).f3), .int .i64 0, .bool false, .int .i64 0, .int .i64 0]) ?_ 4 _ rfl; (with_reducible repeat (first | refine Qe ?_ _ | refine Qg ?_ | refine Qf ?_ _)); refine Qk (cs := #[.int .i64 ((rd_T48 l0 x7_1).f0), .int .i64 ((rd_T48 l0 x7_1).f1), .int .i64 ((rd_T48 l0 x7_1).f2), .bool false, .int .i64 0, .bool false, .int .i64 0, .int .i64 0]) ?_ 3 _ rfl; (with_reducible repeat (first | refine Qe ?_ _ | refine Qg ?_ | refine Qf ?_ _)); refine Qk (cs := #[.int .i64 ((rd_T48 l0 x7_1).f0), .int .i64 ((rd_T48 l0 x7_1).f1), .int .i64 0, .bool false, .int .i64 0, .bool false, .int .i64 0, .int .i64 0]) ?_ 2 _ rfl; (with_reducible repeat (first | refine Qe ?_ _ | refine Qg ?_ | refine Qf ?_ _)); refine Qk (cs := #[.int .i64 ((rd_T48 l0 x7_1).f0), .int .i64 0, .int .i64 0, .bool false, .int .i64 0, .bool false, .int .i64 0, .int .i64 0]) ?_ 1 _ rfl; (with_reducible repeat (first | refine Qe ?_ _ | refine Qg ?_ | refine Qf ?_ _)); refine Qk (cs := #[.int .i64 0, .int .i64 0, .int .i64 0, .bool false, .int .i64 0, .bool false, .int .i64 0, .int .i64 0]) ?_ 0 _ rfl; (with_reducible repeat (first | refine Qe ?_ _ | refine Qg ?_ | refine Qf ?_ _)); exact BK49.out) hg (Kd.R_ne HO_6.out BK49.out (by decide))); have n2_ := Qz.mk (hb); have n3_ := Qz.mk (ho); clear HO_5; clear BK49; clear HB; clear HO_6; have HO_5 := n0_; have BK49 := n1_; have HB := n2_; have HO67 := n3_; clear n0_ n1_ n2_ n3_; clear ho hb hg hat))
         go_roundg k1
         case measure => have := HK1.out; omega
         case rel => exact ⟨(x5_1), (y57), (wrap64 (x7_1 - 1)), (by first | rfl | (simp; done) | (simp [*]; done)), H', ⟨by have := HK1.out; omega⟩, ⟨by (with_reducible repeat (first | apply Kd.Qn | apply Kd.Qm | apply Kd.Qo)); exact Kd.Qw HO_5.out (fun _ hk => hk.2)⟩, ⟨by (with_reducible repeat (first | apply Kd.Qn | apply Kd.Qm | apply Kd.Qo)); exact HO67.out⟩, ⟨by repeat (first | (with_reducible first | exact HB.out | apply Qc | apply Qa | apply Qb | refine Qd ?_ GE49.out) | exact HB.out)⟩⟩
        rw [if_neg c38] at H
        exact absurd H (by simp)
       rw [if_neg c32] at H
       have c32b0 : (((rd_T48 l0 x7_1).f0) == 2) = false := beq_eq_false_iff_ne.mpr c32
       have c32b1 : (((rd_T48 l0 x7_1).f0) != 2) = true := bne_iff_ne.mpr c32
       have H' := Qz.mk H
       clear H
       have p385 : 0 ≤ (x7_1 : Int) := of_decide_eq_true (by first | (with_reducible assumption) | assumption)
       have q50 : x7_1 < (l0.length : Int) := of_decide_eq_true (by first | (with_reducible assumption) | assumption)
       obtain ⟨ad50, e385, hx50_0, hx50_1, hx50_2, hx50_3, hx50_4, hx50_5, hx50_6, hx50_7⟩ := at_T48 (Kd.Qac HR0.out HB.out) x7_1 p385 q50
       cases e385
       replace p385 := eq_true p385
       replace q50 := eq_true q50
       go_wp2_with (first | ((with_reducible refine gate_dst (N := 8) rfl ?_); refine box_event ?hg (N := 8) ?hd (cs := #[.int .i64 0, .int .i64 0, .int .i64 0, .bool false, .int .i64 0, .bool false, .int .i64 0, .int .i64 0]) (t := 48) ?hr ?_; (case hd => rfl); (case hg => rfl); (case hr => first | (go_simp; done) | (go_simp; rfl)); intro gb49 hg w43 hbox hb; have n0_ := Qz.mk (Kd.Qy (by (with_reducible repeat (first | apply Kd.Qn | apply Kd.Qm | apply Kd.Qo)); exact HO_5.out) hb); have n1_ := Qz.mk (Kd.Qy (by (with_reducible repeat (first | apply Kd.Qn | apply Kd.Qm | apply Kd.Qo)); exact HO_6.out) hb); have n2_ := Qz.mk (Qq (by repeat (first | (with_reducible first | exact HB.out | apply Qc | apply Qa | apply Qb) | exact HB.out)) hb); have n3_ := Qz.mk (hbox); have n4_ := Qz.mk ((by rw [hg]; exact (Qp (by repeat (first | (with_reducible first | exact HB.out | apply Qc | apply Qa | apply Qb) | exact HB.out))) : w.heap.size ≤ gb49)); have n5_ := n4_; clear HO_5; clear HO_6; clear HB; have HO_5 := n0_; have HO_6 := n1_; have HB := n2_; have BK49 := n3_; have GW49 := n4_; have GE49 := n5_; clear n0_ n1_ n2_ n3_ n4_ n5_; clear hb hbox hg; obtain ⟨z44_0, z44_1, z44_2, z44_3, z44_4, z44_5, z44_6, z44_7, j44_0, j44_1, j44_2, j44_3, j44_4, j44_5, j44_6, j44_7⟩ := Lv.blks8 BK49.out))
       go_roundg k1
       case measure => have := HK1.out; omega
       case rel => exact ⟨(x5_1), (x6_1), (wrap64 (x7_1 - 1)), (by first | rfl | (simp; done) | (simp [*]; done)), H', ⟨by have := HK1.out; omega⟩, ⟨by (with_reducible repeat (first | apply Kd.Qn | apply Kd.Qm | apply Kd.Qo)); exact Kd.Qw (Kd.Qx (p := ⟨gb49, 7, none⟩) (Kd.Qx (p := ⟨gb49, 6, none⟩) (Kd.Qx (p := ⟨gb49, 5, none⟩) (Kd.Qx (p := ⟨gb49, 4, none⟩) (Kd.Qx (p := ⟨gb49, 3, none⟩) (Kd.Qx (p := ⟨gb49, 2, none⟩) (Kd.Qx (p := ⟨gb49, 1, none⟩) (Kd.Qx (p := ⟨gb49, 0, none⟩) (Kd.Qai HO_5.out BK49.out (by decide)) (fun _ hk => hk.2) (.int .i64 ((rd_T48 l0 x7_1).f0))) (fun _ hk => hk.2) (.int .i64 ((rd_T48 l0 x7_1).f1))) (fun _ hk => hk.2) (.int .i64 ((rd_T48 l0 x7_1).f2))) (fun _ hk => hk.2) (.bool ((rd_T48 l0 x7_1).f3))) (fun _ hk => hk.2) (.int .i64 ((rd_T48 l0 x7_1).f4))) (fun _ hk => hk.2) (.bool ((rd_T48 l0 x7_1).f5))) (fun _ hk => hk.2) (.int .i64 ((rd_T48 l0 x7_1).f6))) (fun _ hk => hk.2) (.int .i64 ((rd_T48 l0 x7_1).f7))) (fun _ hk => hk.1)⟩, ⟨by (with_reducible repeat (first | apply Kd.Qn | apply Kd.Qm | apply Kd.Qo)); exact Kd.Qw (Kd.Qx (p := ⟨gb49, 7, none⟩) (Kd.Qx (p := ⟨gb49, 6, none⟩) (Kd.Qx (p := ⟨gb49, 5, none⟩) (Kd.Qx (p := ⟨gb49, 4, none⟩) (Kd.Qx (p := ⟨gb49, 3, none⟩) (Kd.Qx (p := ⟨gb49, 2, none⟩) (Kd.Qx (p := ⟨gb49, 1, none⟩) (Kd.Qx (p := ⟨gb49, 0, none⟩) (Kd.Qai HO_6.out BK49.out (by decide)) (fun _ hk => hk.2) (.int .i64 ((rd_T48 l0 x7_1).f0))) (fun _ hk => hk.2) (.int .i64 ((rd_T48 l0 x7_1).f1))) (fun _ hk => hk.2) (.int .i64 ((rd_T48 l0 x7_1).f2))) (fun _ hk => hk.2) (.bool ((rd_T48 l0 x7_1).f3))) (fun _ hk => hk.2) (.int .i64 ((rd_T48 l0 x7_1).f4))) (fun _ hk => hk.2) (.bool ((rd_T48 l0 x7_1).f5))) (fun _ hk => hk.2) (.int .i64 ((rd_T48 l0 x7_1).f6))) (fun _ hk => hk.2) (.int .i64 ((rd_T48 l0 x7_1).f7))) (fun _ hk => hk.1)⟩, ⟨by repeat (first | (with_reducible first | exact HB.out | apply Qc | apply Qa | apply Qb | refine Qd ?_ GE49.out) | exact HB.out)⟩⟩
      rw [if_neg c10] at H
      have c10b0 : (((rd_T48 l0 x7_1).f1) == a1) = false := beq_eq_false_iff_ne.mpr c10
      have c10b1 : (((rd_T48 l0 x7_1).f1) != a1) = true := bne_iff_ne.mpr c10
      have H' := Qz.mk H
      clear H
      have p385 : 0 ≤ (x7_1 : Int) := of_decide_eq_true (by first | (with_reducible assumption) | assumption)
      have q50 : x7_1 < (l0.length : Int) := of_decide_eq_true (by first | (with_reducible assumption) | assumption)
      obtain ⟨ad50, e385, hx50_0, hx50_1, hx50_2, hx50_3, hx50_4, hx50_5, hx50_6, hx50_7⟩ := at_T48 (Kd.Qac HR0.out HB.out) x7_1 p385 q50
      cases e385
      replace p385 := eq_true p385
      replace q50 := eq_true q50
      go_wp2_with (first | ((with_reducible refine gate_dst (N := 8) rfl ?_); refine box_event ?hg (N := 8) ?hd (cs := #[.int .i64 0, .int .i64 0, .int .i64 0, .bool false, .int .i64 0, .bool false, .int .i64 0, .int .i64 0]) (t := 48) ?hr ?_; (case hd => rfl); (case hg => rfl); (case hr => first | (go_simp; done) | (go_simp; rfl)); intro gb49 hg w45 hbox hb; have n0_ := Qz.mk (Kd.Qy (by (with_reducible repeat (first | apply Kd.Qn | apply Kd.Qm | apply Kd.Qo)); exact HO_5.out) hb); have n1_ := Qz.mk (Kd.Qy (by (with_reducible repeat (first | apply Kd.Qn | apply Kd.Qm | apply Kd.Qo)); exact HO_6.out) hb); have n2_ := Qz.mk (Qq (by repeat (first | (with_reducible first | exact HB.out | apply Qc | apply Qa | apply Qb) | exact HB.out)) hb); have n3_ := Qz.mk (hbox); have n4_ := Qz.mk ((by rw [hg]; exact (Qp (by repeat (first | (with_reducible first | exact HB.out | apply Qc | apply Qa | apply Qb) | exact HB.out))) : w.heap.size ≤ gb49)); have n5_ := n4_; clear HO_5; clear HO_6; clear HB; have HO_5 := n0_; have HO_6 := n1_; have HB := n2_; have BK49 := n3_; have GW49 := n4_; have GE49 := n5_; clear n0_ n1_ n2_ n3_ n4_ n5_; clear hb hbox hg; obtain ⟨z46_0, z46_1, z46_2, z46_3, z46_4, z46_5, z46_6, z46_7, j46_0, j46_1, j46_2, j46_3, j46_4, j46_5, j46_6, j46_7⟩ := Lv.blks8 BK49.out))
      go_roundg k1
      case measure => have := HK1.out; omega
      case rel => exact ⟨(x5_1), (x6_1), (wrap64 (x7_1 - 1)), (by first | rfl | (simp; done) | (simp [*]; done)), H', ⟨by have := HK1.out; omega⟩, ⟨by (with_reducible repeat (first | apply Kd.Qn | apply Kd.Qm | apply Kd.Qo)); exact Kd.Qw (Kd.Qx (p := ⟨gb49, 7, none⟩) (Kd.Qx (p := ⟨gb49, 6, none⟩) (Kd.Qx (p := ⟨gb49, 5, none⟩) (Kd.Qx (p := ⟨gb49, 4, none⟩) (Kd.Qx (p := ⟨gb49, 3, none⟩) (Kd.Qx (p := ⟨gb49, 2, none⟩) (Kd.Qx (p := ⟨gb49, 1, none⟩) (Kd.Qx (p := ⟨gb49, 0, none⟩) (Kd.Qai HO_5.out BK49.out (by decide)) (fun _ hk => hk.2) (.int .i64 ((rd_T48 l0 x7_1).f0))) (fun _ hk => hk.2) (.int .i64 ((rd_T48 l0 x7_1).f1))) (fun _ hk => hk.2) (.int .i64 ((rd_T48 l0 x7_1).f2))) (fun _ hk => hk.2) (.bool ((rd_T48 l0 x7_1).f3))) (fun _ hk => hk.2) (.int .i64 ((rd_T48 l0 x7_1).f4))) (fun _ hk => hk.2) (.bool ((rd_T48 l0 x7_1).f5))) (fun _ hk => hk.2) (.int .i64 ((rd_T48 l0 x7_1).f6))) (fun _ hk => hk.2) (.int .i64 ((rd_T48 l0 x7_1).f7))) (fun _ hk => hk.1)⟩, ⟨by (with_reducible repeat (first | apply Kd.Qn | apply Kd.Qm | apply Kd.Qo)); exact Kd.Qw (Kd.Qx (p := ⟨gb49, 7, none⟩) (Kd.Qx (p := ⟨gb49, 6, none⟩) (Kd.Qx (p := ⟨gb49, 5, none⟩) (Kd.Qx (p := ⟨gb49, 4, none⟩) (Kd.Qx (p := ⟨gb49, 3, none⟩) (Kd.Qx (p := ⟨gb49, 2, none⟩) (Kd.Qx (p := ⟨gb49, 1, none⟩) (Kd.Qx (p := ⟨gb49, 0, none⟩) (Kd.Qai HO_6.out BK49.out (by decide)) (fun _ hk => hk.2) (.int .i64 ((rd_T48 l0 x7_1).f0))) (fun _ hk => hk.2) (.int .i64 ((rd_T48 l0 x7_1).f1))) (fun _ hk => hk.2) (.int .i64 ((rd_T48 l0 x7_1).f2))) (fun _ hk => hk.2) (.bool ((rd_T48 l0 x7_1).f3))) (fun _ hk => hk.2) (.int .i64 ((rd_T48 l0 x7_1).f4))) (fun _ hk => hk.2) (.bool ((rd_T48 l0 x7_1).f5))) (fun _ hk => hk.2) (.int .i64 ((rd_T48 l0 x7_1).f6))) (fun _ hk => hk.2) (.int .i64 ((rd_T48 l0 x7_1).f7))) (fun _ hk => hk.1)⟩, ⟨by repeat (first | (with_reducible first | exact HB.out | apply Qc | apply Qa | apply Qb | refine Qd ?_ GE49.out) | exact HB.out)⟩⟩
     rw [if_neg c9] at H
     exact absurd H (by simp)
    rw [if_neg c8] at H
    exact absurd H (by simp)
   rw [if_neg c7] at H
   have c7b0 : decide (0 ≤ x7_1) = false := decide_eq_false c7
   clear c7
   obtain rfl := Option.some.inj H
   go_wp2
   go_ret
   exact ⟨_, by first | rfl | (simp [Qv, Qu] <;> rfl) | (simp [*, Qv, Qu] <;> rfl), by (with_reducible repeat (first | apply Kd.Qn | apply Kd.Qm | apply Kd.Qo)); exact Kd.Qw HO_6.out (fun _ hk => trivial), by repeat (first | (with_reducible first | exact HB.out | apply Qc | apply Qa | apply Qb) | exact HB.out)⟩
set_option maxHeartbeats 8000000 in
set_option maxRecDepth 100000 in
theorem ZsChainBack.calls (k : Nat) (A0 : Option Addr) (c0 : Nat) (l0 : List (S48)) (a1 : Int) (r1 : Int) (r2 : List Int) (w : World) (hr0 : Kd.C k48 w A0 l0.length l0) (hc0 : l0.length ≤ c0) (h : ZsChainBack.f k l0 a1 = some (r1, r2)) :
 Calls Try.prog 17 #[.slice A0 l0.length c0, .int .i64 a1] w fun e w' => ∃ v1_ : Value, e = .returned (.agg #[.int .i64 r1, v1_]) ∧ Kd.R (Kd.int .i64) 2 w' w.heap.size (fun _ => True) v1_ r2 ∧ Below w.heap.size w w' := by
 have hu35 := Try.underlying35
 have hu48 := Try.underlying48
 have HR0 := Qz.mk hr0
 have HC0 := Qz.mk hc0
 clear hr0 hc0
 have HB := Qz.mk (Below.refl w.heap.size w)
 have H : (if (l0.length : Int) > 400 then (some (2, ([] : List Int))) else (ZsChainBack.l0 k l0 a1 0)) = some (r1, r2) := h
 clear h
 by_cases c3 : (l0.length : Int) > 400
 ·rw [if_pos c3] at H
  have c3b0 : decide (400 < (l0.length : Int)) = true := decide_eq_true c3
  have c3b1 : decide (400 < l0.length) = true := decide_eq_true (by omega)
  clear c3
  simp only [Option.some.injEq, Prod.mk.injEq] at H
  obtain ⟨rfl, rfl⟩ := H
  go_enter Try.func17, Try.ntmps17
  go_wp2_with (first | ((with_reducible refine gate_dst (N := 4) rfl ?_); refine box_event ?hg (N := 4) ?hd (cs := #[.int .i64 0, .slice none 0 0]) (t := 35) ?hr ?_; (case hd => rfl); (case hg => rfl); (case hr => first | (go_simp; done) | (go_simp; rfl)); intro gb22 hg w4 hbox hb; have n0_ := Qz.mk (Qq (by repeat (first | (with_reducible first | exact HB.out | apply Qc | apply Qa | apply Qb) | exact HB.out)) hb); have n1_ := Qz.mk (hbox); have n2_ := Qz.mk ((by rw [hg]; exact (Qp (by repeat (first | (with_reducible first | exact HB.out | apply Qc | apply Qa | apply Qb) | exact HB.out))) : w.heap.size ≤ gb22)); have n3_ := n2_; clear HB; have HB := n0_; have BK22 := n1_; have GW22 := n2_; have GE22 := n3_; clear n0_ n1_ n2_ n3_; clear hb hbox hg; obtain ⟨z5_0, z5_1, j5_0, j5_1⟩ := Lv.blks2 BK22.out))
  refine bodyPost_ret (results_cell_row rfl _ _ gb22 35 #[.int .i64 2, .slice none 0 0] (0, 0) _ rfl (by (with_reducible repeat (first | refine Qe ?_ _ | refine Qg ?_ | refine Qf ?_ _)); refine Qk (cs := #[.int .i64 2, .slice none 0 0]) ?_ 1 _ rfl; (with_reducible repeat (first | refine Qe ?_ _ | refine Qg ?_ | refine Qf ?_ _)); refine Qk (cs := #[.int .i64 0, .slice none 0 0]) ?_ 0 _ rfl; (with_reducible repeat (first | refine Qe ?_ _ | refine Qg ?_ | refine Qf ?_ _)); exact BK22.out) Try.underlying35 rfl (by kernel_rfl)) rfl ?_
  exact ⟨_, by first | rfl | (simp [Qv, Qu] <;> rfl) | (simp [*, Qv, Qu] <;> rfl), by first | exact Kd.R_nil _ _ _ _ _ | exact Kd.N_nil _ _ _ _ _ | exact Kd.V_nil _ _ _ _ _ | exact Kd.Q_nil _ _ _ _ _ | exact Kd.S_nil _ _ _ _ _, by repeat (first | (with_reducible first | exact HB.out | apply Qc | apply Qa | apply Qb | refine Qd ?_ GE22.out) | exact HB.out)⟩
 rw [if_neg c3] at H
 have c3b0 : decide (400 < (l0.length : Int)) = false := decide_eq_false c3
 have c3b1 : decide (400 < l0.length) = false := decide_eq_false (by omega)
 clear c3
 have H' := Qz.mk H
 clear H
 go_enter Try.func17, Try.ntmps17
 go_wp2_with (first | ((with_reducible refine gate_dst (N := 4) rfl ?_); refine box_event ?hg (N := 4) ?hd (cs := #[.int .i64 0, .slice none 0 0]) (t := 35) ?hr ?_; (case hd => rfl); (case hg => rfl); (case hr => first | (go_simp; done) | (go_simp; rfl)); intro gb22 hg w6 hbox hb; have n0_ := Qz.mk (Qq (by repeat (first | (with_reducible first | exact HB.out | apply Qc | apply Qa | apply Qb) | exact HB.out)) hb); have n1_ := Qz.mk (hbox); have n2_ := Qz.mk ((by rw [hg]; exact (Qp (by repeat (first | (with_reducible first | exact HB.out | apply Qc | apply Qa | apply Qb) | exact HB.out))) : w.heap.size ≤ gb22)); have n3_ := n2_; clear HB; have HB := n0_; have BK22 := n1_; have GW22 := n2_; have GE22 := n3_; clear n0_ n1_ n2_ n3_; clear hb hbox hg))
 go_loopg [5] k (fun kq v5 w' => ∃ (x5_1 : Int) (x23_1 : Int), v5 = .int .i64 x5_1 ∧ Qz (ZsChainBack.l0 kq l0 a1 x5_1 = some (r1, r2)) ∧ Qz (kq ≤ k) ∧ Qz (w'.heap[gb22]? = some (.cells #[.int .i64 x23_1, (.slice none 0 0)] 35 (0, 0))) ∧ Qz (Below w.heap.size w w'))
 case atStart => exact ⟨(0), (0), (by first | rfl | (simp; done) | (simp [*]; done)), H', ⟨Nat.le_refl _⟩, ⟨by (with_reducible repeat (first | refine Qe ?_ _ | refine Qg ?_ | refine Qf ?_ _)); exact BK22.out⟩, ⟨by repeat (first | (with_reducible first | exact HB.out | apply Qc | apply Qa | apply Qb | refine Qd ?_ GE22.out) | exact HB.out)⟩⟩
 case round =>
  clear H'
  try clear c1
  try clear p2
  try clear c3
  try clear c3b0
  try clear c3b1
  try clear z5_0 z5_1 j5_0 j5_1
  obtain ⟨x5_1, x23_1, rfl, HA, HK1, BK22, HB⟩ := hrel
  cases gk with
  | zero => exact absurd HA.out (by simp [ZsChainBack.l0])
  | succ k1 =>
   have H := HA.out
   clear HA
   simp only [ZsChainBack.l0] at H
   by_cases c7 : x5_1 < (l0.length : Int)
   ·rw [if_pos c7] at H
    have c7b0 : decide (x5_1 < (l0.length : Int)) = true := decide_eq_true c7
    clear c7
    by_cases c8 : 0 ≤ x5_1
    ·rw [if_pos c8] at H
     have c8b0 : decide (0 ≤ x5_1) = true := decide_eq_true c8
     clear c8
     replace H := Qj9 H
     obtain ⟨t25, A90, H⟩ := H
     replace H : (if t25 = 0 then (ZsChainBack.l0 k1 l0 a1 (wrap64 (x5_1 + 1))) else (some (t25, ([] : List Int)))) = some (r1, r2) := H
     have A9 := Qz.mk A90
     clear A90
     by_cases c10 : t25 = 0
     ·rw [if_pos c10] at H
      have c10b0 : (t25 == 0) = true := beq_iff_eq.mpr c10
      have c10b1 : (t25 != 0) = false := bne_eq_false_iff_eq.mpr c10
      clear c10
      have H' := Qz.mk H
      clear H
      have p399 : 0 ≤ (x5_1 : Int) := of_decide_eq_true (by first | (with_reducible assumption) | assumption)
      have q24 : x5_1 < (l0.length : Int) := of_decide_eq_true (by first | (with_reducible assumption) | assumption)
      obtain ⟨ad24, e399, hx24_0, hx24_1, hx24_2, hx24_3, hx24_4, hx24_5, hx24_6, hx24_7⟩ := at_T48 (Kd.Qac HR0.out HB.out) x5_1 p399 q24
      cases e399
      replace p399 := eq_true p399
      replace q24 := eq_true q24
      go_wp2_with (first | ((with_reducible refine gate_callee (f := 52) rfl ?_); refine Qat (some 21) rfl rfl Try.func52 (by kernel_rfl) rfl #[.agg #[.int .i64 ((rd_T48 l0 x5_1).f0), .int .i64 ((rd_T48 l0 x5_1).f1), .int .i64 ((rd_T48 l0 x5_1).f2), .bool ((rd_T48 l0 x5_1).f3), .int .i64 ((rd_T48 l0 x5_1).f4), .bool ((rd_T48 l0 x5_1).f5), .int .i64 ((rd_T48 l0 x5_1).f6), .int .i64 ((rd_T48 l0 x5_1).f7)]] rfl (by (try simp only [Qj4, Qj5, Qj6]); first | done | rfl | (simp only [Qj7, Qj8]; rfl)) ?_; (with_reducible refine (ZsRecFault.calls k1 ((rd_T48 l0 x5_1).f0) ((rd_T48 l0 x5_1).f1) ((rd_T48 l0 x5_1).f2) ((rd_T48 l0 x5_1).f3) ((rd_T48 l0 x5_1).f4) ((rd_T48 l0 x5_1).f5) ((rd_T48 l0 x5_1).f6) ((rd_T48 l0 x5_1).f7) t25 _ A9.out).mono ?_); rintro e w11 ⟨rfl, hb⟩; refine ⟨_, rfl, ?_⟩; have n0_ := Qz.mk (Qi (g := gb22) (o := .cells #[.int .i64 x23_1, .slice none 0 0] 35 (0, 0)) (by (with_reducible repeat (first | refine Qe ?_ _ | refine Qg ?_ | refine Qf ?_ _)); exact BK22.out) hb); have n1_ := Qz.mk (Qq (by repeat (first | (with_reducible first | exact HB.out | apply Qc | apply Qa | apply Qb | refine Qd ?_ GE22.out) | exact HB.out)) hb); clear BK22; clear HB; have BK22 := n0_; have HB := n1_; clear n0_ n1_; (try clear hb); (try clear hb2); (try clear hk); (try clear hi)))
      go_roundg k1
      case measure => have := HK1.out; omega
      case rel => exact ⟨(wrap64 (x5_1 + 1)), (x23_1), (by first | rfl | (simp; done) | (simp [*]; done)), H', ⟨by have := HK1.out; omega⟩, ⟨by (with_reducible repeat (first | refine Qe ?_ _ | refine Qg ?_ | refine Qf ?_ _)); exact BK22.out⟩, ⟨by repeat (first | (with_reducible first | exact HB.out | apply Qc | apply Qa | apply Qb | refine Qd ?_ GE22.out) | exact HB.out)⟩⟩
     rw [if_neg c10] at H
     have c10b0 : (t25 == 0) = false := beq_eq_false_iff_ne.mpr c10
     have c10b1 : (t25 != 0) = true := bne_iff_ne.mpr c10
     simp only [Option.some.injEq, Prod.mk.injEq] at H
     obtain ⟨rfl, rfl⟩ := H
     have p399 : 0 ≤ (x5_1 : Int) := of_decide_eq_true (by first | (with_reducible assumption) | assumption)
     have q24 : x5_1 < (l0.length : Int) := of_decide_eq_true (by first | (with_reducible assumption) | assumption)
     obtain ⟨ad24, e399, hx24_0, hx24_1, hx24_2, hx24_3, hx24_4, hx24_5, hx24_6, hx24_7⟩ := at_T48 (Kd.Qac HR0.out HB.out) x5_1 p399 q24
     cases e399
     replace p399 := eq_true p399
     replace q24 := eq_true q24
     go_wp2_with (first | ((with_reducible refine gate_callee (f := 52) rfl ?_); refine Qat (some 21) rfl rfl Try.func52 (by kernel_rfl) rfl #[.agg #[.int .i64 ((rd_T48 l0 x5_1).f0), .int .i64 ((rd_T48 l0 x5_1).f1), .int .i64 ((rd_T48 l0 x5_1).f2), .bool ((rd_T48 l0 x5_1).f3), .int .i64 ((rd_T48 l0 x5_1).f4), .bool ((rd_T48 l0 x5_1).f5), .int .i64 ((rd_T48 l0 x5_1).f6), .int .i64 ((rd_T48 l0 x5_1).f7)]] rfl (by (try simp only [Qj4, Qj5, Qj6]); first | done | rfl | (simp only [Qj7, Qj8]; rfl)) ?_; (with_reducible refine (ZsRecFault.calls k1 ((rd_T48 l0 x5_1).f0) ((rd_T48 l0 x5_1).f1) ((rd_T48 l0 x5_1).f2) ((rd_T48 l0 x5_1).f3) ((rd_T48 l0 x5_1).f4) ((rd_T48 l0 x5_1).f5) ((rd_T48 l0 x5_1).f6) ((rd_T48 l0 x5_1).f7) t25 _ A9.out).mono ?_); rintro e w12 ⟨rfl, hb⟩; refine ⟨_, rfl, ?_⟩; have n0_ := Qz.mk (Qi (g := gb22) (o := .cells #[.int .i64 x23_1, .slice none 0 0] 35 (0, 0)) (by (with_reducible repeat (first | refine Qe ?_ _ | refine Qg ?_ | refine Qf ?_ _)); exact BK22.out) hb); have n1_ := Qz.mk (Qq (by repeat (first | (with_reducible first | exact HB.out | apply Qc | apply Qa | apply Qb | refine Qd ?_ GE22.out) | exact HB.out)) hb); clear BK22; clear HB; have BK22 := n0_; have HB := n1_; clear n0_ n1_; (try clear hb); (try clear hb2); (try clear hk); (try clear hi); obtain ⟨z13_0, z13_1, j13_0, j13_1⟩ := Lv.blks2 BK22.out))
     refine bodyPost_ret (results_cell_row rfl _ _ gb22 35 #[.int .i64 t25, .slice none 0 0] (0, 0) _ rfl (by (with_reducible repeat (first | refine Qe ?_ _ | refine Qg ?_ | refine Qf ?_ _)); refine Qk (cs := #[.int .i64 t25, .slice none 0 0]) ?_ 1 _ rfl; (with_reducible repeat (first | refine Qe ?_ _ | refine Qg ?_ | refine Qf ?_ _)); refine Qk (cs := #[.int .i64 x23_1, .slice none 0 0]) ?_ 0 _ rfl; (with_reducible repeat (first | refine Qe ?_ _ | refine Qg ?_ | refine Qf ?_ _)); exact BK22.out) Try.underlying35 rfl (by kernel_rfl)) rfl ?_
     exact ⟨_, by first | rfl | (simp [Qv, Qu] <;> rfl) | (simp [*, Qv, Qu] <;> rfl), by first | exact Kd.R_nil _ _ _ _ _ | exact Kd.N_nil _ _ _ _ _ | exact Kd.V_nil _ _ _ _ _ | exact Kd.Q_nil _ _ _ _ _ | exact Kd.S_nil _ _ _ _ _, by repeat (first | (with_reducible first | exact HB.out | apply Qc | apply Qa | apply Qb | refine Qd ?_ GE22.out) | exact HB.out)⟩
    rw [if_neg c8] at H
    exact absurd H (by simp)
   rw [if_neg c7] at H
   have c7b0 : decide (x5_1 < (l0.length : Int)) = false := decide_eq_false c7
   clear c7
   replace H := Qj9 H
   obtain ⟨t28, A29, H⟩ := H
   replace H : (if t28 = true then ((Zsl3Back.f k1 l0 a1).bind fun t26 => (some (0, t26))) else (some (3, ([] : List Int)))) = some (r1, r2) := H
   have A14 := Qz.mk A29
   clear A29
   by_cases c15 : t28 = true
   ·subst c15
    have H1 : ((Zsl3Back.f k1 l0 a1).bind fun t26 => (some (0, t26))) = some (r1, r2) := by rw [if_pos rfl] at H; exact H
    clear H
    have H := H1
    clear H1
    replace H := Qj9 H
    obtain ⟨t26, A30, H⟩ := H
    replace H : (some (0, t26)) = some (r1, r2) := H
    have A16 := Qz.mk A30
    clear A30
    simp only [Option.some.injEq, Prod.mk.injEq] at H
    obtain ⟨rfl, rfl⟩ := H
    go_wp2_with (first | ((with_reducible refine gate_callee (f := 53) rfl ?_); refine Qat (some 27) rfl rfl Try.func53 (by kernel_rfl) rfl #[.int .i64 a1] rfl (by (try simp only [Qj4, Qj5, Qj6]); first | done | rfl | (simp only [Qj7, Qj8]; rfl)) ?_; (with_reducible refine (Zsl3Txn.calls a1 true _ A14.out).mono ?_); rintro e w' ⟨rfl, ⟨nd, rfl⟩⟩; refine ⟨_, rfl, ?_⟩; (try (rw [drewN_self wr]; generalize hq_ : World.drewN wr _ = wr; have n0_ : Qz (wr.heap[gb22]? = some (.cells #[.int .i64 x23_1, .slice none 0 0] 35 (0, 0))) := ⟨by rw [← hq_]; exact (by (with_reducible repeat (first | refine Qe ?_ _ | refine Qg ?_ | refine Qf ?_ _)); exact BK22.out)⟩; have n1_ : Qz (Below w.heap.size w wr) := ⟨by rw [← hq_]; exact (by repeat (first | (with_reducible first | exact HB.out | apply Qc | apply Qa | apply Qb | refine Qd ?_ GE22.out) | exact HB.out))⟩; clear BK22 HB hq_; have BK22 := n0_; have HB := n1_; clear n0_ n1_))) | ((with_reducible refine gate_callee (f := 54) rfl ?_); refine Qat (some 32) rfl rfl Try.func54 (by kernel_rfl) rfl #[.slice A0 l0.length c0, .int .i64 a1] rfl (by (try simp only [Qj4, Qj5, Qj6]); first | done | rfl | (simp only [Qj7, Qj8]; rfl)) ?_; (with_reducible refine (Zsl3Back.calls k1 _ _ l0 a1 t26 _ ?side1 ?side2 A16.out).mono ?_); (case side1 => repeat (first | exact (Kd.Qac HR0.out HB.out) | (with_reducible first | refine Kd.Qaa ?_ _ | refine Kd.Qz ?_ _ | refine Kd.Qab ?_))); (case side2 => exact HC0.out); rintro e w17 ⟨v33, rfl, ho0, hb⟩; refine ⟨_, rfl, ?_⟩; have n0_ := Qz.mk (Kd.Qan ho0 (Qp (by repeat (first | (with_reducible first | exact HB.out | apply Qc | apply Qa | apply Qb | refine Qd ?_ GE22.out) | exact HB.out)))); have n1_ := Qz.mk (Qi (g := gb22) (o := .cells #[.int .i64 x23_1, .slice none 0 0] 35 (0, 0)) (by (with_reducible repeat (first | refine Qe ?_ _ | refine Qg ?_ | refine Qf ?_ _)); exact BK22.out) hb); have n2_ := Qz.mk (Qq (by repeat (first | (with_reducible first | exact HB.out | apply Qc | apply Qa | apply Qb | refine Qd ?_ GE22.out) | exact HB.out)) hb); clear BK22; clear HB; have HO31 := n0_; have BK22 := n1_; have HB := n2_; clear n0_ n1_ n2_; (try clear hb); (try clear hb2); (try clear hk); (try clear hi); (try clear ho0); obtain ⟨Ao18, co18, eo18⟩ := Kd.R_slice HO31.out; subst eo18; obtain ⟨z19_0, z19_1, j19_0, j19_1⟩ := Lv.blks2 BK22.out))
    refine bodyPost_ret (results_cell_row rfl _ _ gb22 35 #[.int .i64 0, .slice Ao18 t26.length co18] (0, 0) _ rfl (by (with_reducible repeat (first | refine Qe ?_ _ | refine Qg ?_ | refine Qf ?_ _)); refine Qk (cs := #[.int .i64 0, .slice none 0 0]) ?_ 1 _ rfl; (with_reducible repeat (first | refine Qe ?_ _ | refine Qg ?_ | refine Qf ?_ _)); refine Qk (cs := #[.int .i64 x23_1, .slice none 0 0]) ?_ 0 _ rfl; (with_reducible repeat (first | refine Qe ?_ _ | refine Qg ?_ | refine Qf ?_ _)); exact BK22.out) Try.underlying35 rfl (by kernel_rfl)) rfl ?_
    exact ⟨_, by first | rfl | (simp [Qv, Qu] <;> rfl) | (simp [*, Qv, Qu] <;> rfl), by (with_reducible repeat (first | apply Kd.Qn | apply Kd.Qm | apply Kd.Qo)); exact Kd.Qw (Kd.Qx (p := ⟨gb22, 1, none⟩) (Kd.Qx (p := ⟨gb22, 0, none⟩) (Kd.Qai HO31.out BK22.out (by decide)) (fun _ hk => hk.2) (.int .i64 0)) (fun _ hk => hk.2) (.slice Ao18 t26.length co18)) (fun _ hk => trivial), by repeat (first | (with_reducible first | exact HB.out | apply Qc | apply Qa | apply Qb | refine Qd ?_ GE22.out) | exact HB.out)⟩
   replace c15 := Bool.eq_false_iff.mpr c15
   subst c15
   have H1 : (some (3, ([] : List Int))) = some (r1, r2) := by rw [if_neg (show ¬ (false = true) by decide)] at H; exact H
   clear H
   have H := H1
   clear H1
   simp only [Option.some.injEq, Prod.mk.injEq] at H
   obtain ⟨rfl, rfl⟩ := H
   go_wp2_with (first | ((with_reducible refine gate_callee (f := 53) rfl ?_); refine Qat (some 27) rfl rfl Try.func53 (by kernel_rfl) rfl #[.int .i64 a1] rfl (by (try simp only [Qj4, Qj5, Qj6]); first | done | rfl | (simp only [Qj7, Qj8]; rfl)) ?_; (with_reducible refine (Zsl3Txn.calls a1 false _ A14.out).mono ?_); rintro e w' ⟨rfl, ⟨nd, rfl⟩⟩; refine ⟨_, rfl, ?_⟩; (try (rw [drewN_self wr]; generalize hq_ : World.drewN wr _ = wr; have n0_ : Qz (wr.heap[gb22]? = some (.cells #[.int .i64 x23_1, .slice none 0 0] 35 (0, 0))) := ⟨by rw [← hq_]; exact (by (with_reducible repeat (first | refine Qe ?_ _ | refine Qg ?_ | refine Qf ?_ _)); exact BK22.out)⟩; have n1_ : Qz (Below w.heap.size w wr) := ⟨by rw [← hq_]; exact (by repeat (first | (with_reducible first | exact HB.out | apply Qc | apply Qa | apply Qb | refine Qd ?_ GE22.out) | exact HB.out))⟩; clear BK22 HB hq_; have BK22 := n0_; have HB := n1_; clear n0_ n1_)); obtain ⟨z20_0, z20_1, j20_0, j20_1⟩ := Lv.blks2 BK22.out))
   refine bodyPost_ret (results_cell_row rfl _ _ gb22 35 #[.int .i64 3, .slice none 0 0] (0, 0) _ rfl (by (with_reducible repeat (first | refine Qe ?_ _ | refine Qg ?_ | refine Qf ?_ _)); refine Qk (cs := #[.int .i64 3, .slice none 0 0]) ?_ 1 _ rfl; (with_reducible repeat (first | refine Qe ?_ _ | refine Qg ?_ | refine Qf ?_ _)); refine Qk (cs := #[.int .i64 x23_1, .slice none 0 0]) ?_ 0 _ rfl; (with_reducible repeat (first | refine Qe ?_ _ | refine Qg ?_ | refine Qf ?_ _)); exact BK22.out) Try.underlying35 rfl (by kernel_rfl)) rfl ?_
   exact ⟨_, by first | rfl | (simp [Qv, Qu] <;> rfl) | (simp [*, Qv, Qu] <;> rfl), by first | exact Kd.R_nil _ _ _ _ _ | exact Kd.N_nil _ _ _ _ _ | exact Kd.V_nil _ _ _ _ _ | exact Kd.Q_nil _ _ _ _ _ | exact Kd.S_nil _ _ _ _ _, by repeat (first | (with_reducible first | exact HB.out | apply Qc | apply Qa | apply Qb | refine Qd ?_ GE22.out) | exact HB.out)⟩
set_option maxHeartbeats 8000000 in
set_option maxRecDepth 100000 in
theorem ZirecsFault.calls (k : Nat) (A0 : Option Addr) (c0 : Nat) (l0 : List (S48)) (r : Int) (w : World) (hr0 : Kd.C k48 w A0 l0.length l0) (hc0 : l0.length ≤ c0) (h : ZirecsFault.f k l0 = some r) :
 Calls Try.prog 56 #[.slice A0 l0.length c0] w fun e w' => e = .returned (.int .i64 r) ∧ Below w.heap.size w w' := by
 have hu48 := Try.underlying48
 have HR0 := Qz.mk hr0
 have HC0 := Qz.mk hc0
 clear hr0 hc0
 have HB := Qz.mk (Below.refl w.heap.size w)
 have H : (if (l0.length : Int) > 400 then (some 2) else (ZirecsFault.l0 k l0 (l0.length : Int) 0)) = some r := h
 clear h
 by_cases c2 : (l0.length : Int) > 400
 ·rw [if_pos c2] at H
  have c2b0 : decide (400 < (l0.length : Int)) = true := decide_eq_true c2
  have c2b1 : decide (400 < l0.length) = true := decide_eq_true (by omega)
  clear c2
  obtain rfl := Option.some.inj H
  go_enter Try.func56, Try.ntmps56
  go_wp2
  go_ret
  exact ⟨by first | rfl | (simp [Qv, Qu] <;> rfl) | (simp [*, Qv, Qu] <;> rfl), by repeat (first | (with_reducible first | exact HB.out | apply Qc | apply Qa | apply Qb) | exact HB.out)⟩
 rw [if_neg c2] at H
 have c2b0 : decide (400 < (l0.length : Int)) = false := decide_eq_false c2
 have c2b1 : decide (400 < l0.length) = false := decide_eq_false (by omega)
 clear c2
 have H' := Qz.mk H
 clear H
 go_enter Try.func56, Try.ntmps56
 go_wp2
 go_loopg [11] k (fun kq v11 w' => ∃ (x11_1 : Int), v11 = .int .i64 x11_1 ∧ Qz (ZirecsFault.l0 kq l0 (l0.length : Int) x11_1 = some r) ∧ Qz (kq ≤ k) ∧ Qz (Below w.heap.size w w'))
 case atStart => exact ⟨(0), (by first | rfl | (simp; done) | (simp [*]; done)), H', ⟨Nat.le_refl _⟩, ⟨by repeat (first | (with_reducible first | exact HB.out | apply Qc | apply Qa | apply Qb) | exact HB.out)⟩⟩
 case round =>
  clear H'
  try clear c2
  try clear c2b0
  try clear c2b1
  try clear p2
  obtain ⟨x11_1, rfl, HA, HK1, HB⟩ := hrel
  cases gk with
  | zero => exact absurd HA.out (by simp [ZirecsFault.l0])
  | succ k1 =>
   have H := HA.out
   clear HA
   simp only [ZirecsFault.l0] at H
   by_cases c3 : x11_1 < (l0.length : Int)
   ·rw [if_pos c3] at H
    have c3b0 : decide (x11_1 < (l0.length : Int)) = true := decide_eq_true c3
    clear c3
    by_cases c4 : 0 ≤ x11_1
    ·rw [if_pos c4] at H
     have c4b0 : decide (0 ≤ x11_1) = true := decide_eq_true c4
     clear c4
     by_cases c5 : x11_1 < (l0.length : Int)
     ·rw [if_pos c5] at H
      have c5b0 : decide (x11_1 < (l0.length : Int)) = true := decide_eq_true c5
      clear c5
      replace H := Qj9 H
      obtain ⟨t17, A60, H⟩ := H
      replace H : (if t17 = 0 then (ZirecsFault.l0 k1 l0 (l0.length : Int) (wrap64 (x11_1 + 1))) else (some t17)) = some r := H
      have A6 := Qz.mk A60
      clear A60
      by_cases c7 : t17 = 0
      ·rw [if_pos c7] at H
       have c7b0 : (t17 == 0) = true := beq_iff_eq.mpr c7
       have c7b1 : (t17 != 0) = false := bne_eq_false_iff_eq.mpr c7
       clear c7
       have H' := Qz.mk H
       clear H
       have p421 : 0 ≤ (x11_1 : Int) := of_decide_eq_true (by first | (with_reducible assumption) | assumption)
       have q14 : x11_1 < (l0.length : Int) := of_decide_eq_true (by first | (with_reducible assumption) | assumption)
       obtain ⟨ad14, e421, hx14_0, hx14_1, hx14_2, hx14_3, hx14_4, hx14_5, hx14_6, hx14_7⟩ := at_T48 (Kd.Qac HR0.out HB.out) x11_1 p421 q14
       cases e421
       replace p421 := eq_true p421
       replace q14 := eq_true q14
       go_wp2_with (first | ((with_reducible refine gate_dst (N := 4) rfl ?_); refine box_event ?hg (N := 4) ?hd (cs := #[.int .i64 0, .int .i64 0, .int .i64 0, .bool false, .int .i64 0, .bool false, .int .i64 0, .int .i64 0]) (t := 48) ?hr ?_; (case hd => rfl); (case hg => rfl); (case hr => first | (go_simp; done) | (go_simp; rfl)); intro gb15 hg w8 hbox hb; have n0_ := Qz.mk (Qq (by repeat (first | (with_reducible first | exact HB.out | apply Qc | apply Qa | apply Qb) | exact HB.out)) hb); have n1_ := Qz.mk (hbox); have n2_ := Qz.mk ((by rw [hg]; exact (Qp (by repeat (first | (with_reducible first | exact HB.out | apply Qc | apply Qa | apply Qb) | exact HB.out))) : w.heap.size ≤ gb15)); have n3_ := n2_; clear HB; have HB := n0_; have BK15 := n1_; have GW15 := n2_; have GE15 := n3_; clear n0_ n1_ n2_ n3_; clear hb hbox hg; obtain ⟨z9_0, z9_1, z9_2, z9_3, z9_4, z9_5, z9_6, z9_7, j9_0, j9_1, j9_2, j9_3, j9_4, j9_5, j9_6, j9_7⟩ := Lv.blks8 BK15.out) | ((with_reducible refine gate_callee (f := 82) rfl ?_); refine Qat (some 16) rfl rfl Try.func82 (by kernel_rfl) rfl #[.agg #[.int .i64 ((rd_T48 l0 x11_1).f0), .int .i64 ((rd_T48 l0 x11_1).f1), .int .i64 ((rd_T48 l0 x11_1).f2), .bool ((rd_T48 l0 x11_1).f3), .int .i64 ((rd_T48 l0 x11_1).f4), .bool ((rd_T48 l0 x11_1).f5), .int .i64 ((rd_T48 l0 x11_1).f6), .int .i64 ((rd_T48 l0 x11_1).f7)]] rfl (by (try simp only [Qj4, Qj5, Qj6]); first | done | rfl | (simp only [Qj7, Qj8]; rfl)) ?_; (with_reducible refine (ZiRecFault.calls k1 ((rd_T48 l0 x11_1).f0) ((rd_T48 l0 x11_1).f1) ((rd_T48 l0 x11_1).f2) ((rd_T48 l0 x11_1).f3) ((rd_T48 l0 x11_1).f4) ((rd_T48 l0 x11_1).f5) ((rd_T48 l0 x11_1).f6) ((rd_T48 l0 x11_1).f7) t17 _ A6.out).mono ?_); rintro e w10 ⟨rfl, hb⟩; refine ⟨_, rfl, ?_⟩; have n0_ := Qz.mk (Qi (g := gb15) (o := .cells #[.int .i64 ((rd_T48 l0 x11_1).f0), .int .i64 ((rd_T48 l0 x11_1).f1), .int .i64 ((rd_T48 l0 x11_1).f2), .bool ((rd_T48 l0 x11_1).f3), .int .i64 ((rd_T48 l0 x11_1).f4), .bool ((rd_T48 l0 x11_1).f5), .int .i64 ((rd_T48 l0 x11_1).f6), .int .i64 ((rd_T48 l0 x11_1).f7)] 48 (0, 0)) (by (with_reducible repeat (first | refine Qe ?_ _ | refine Qg ?_ | refine Qf ?_ _)); refine Qk (cs := #[.int .i64 ((rd_T48 l0 x11_1).f0), .int .i64 ((rd_T48 l0 x11_1).f1), .int .i64 ((rd_T48 l0 x11_1).f2), .bool ((rd_T48 l0 x11_1).f3), .int .i64 ((rd_T48 l0 x11_1).f4), .bool ((rd_T48 l0 x11_1).f5), .int .i64 ((rd_T48 l0 x11_1).f6), .int .i64 0]) ?_ 7 _ rfl; (with_reducible repeat (first | refine Qe ?_ _ | refine Qg ?_ | refine Qf ?_ _)); refine Qk (cs := #[.int .i64 ((rd_T48 l0 x11_1).f0), .int .i64 ((rd_T48 l0 x11_1).f1), .int .i64 ((rd_T48 l0 x11_1).f2), .bool ((rd_T48 l0 x11_1).f3), .int .i64 ((rd_T48 l0 x11_1).f4), .bool ((rd_T48 l0 x11_1).f5), .int .i64 0, .int .i64 0]) ?_ 6 _ rfl; (with_reducible repeat (first | refine Qe ?_ _ | refine Qg ?_ | refine Qf ?_ _)); refine Qk (cs := #[.int .i64 ((rd_T48 l0 x11_1).f0), .int .i64 ((rd_T48 l0 x11_1).f1), .int .i64 ((rd_T48 l0 x11_1).f2), .bool ((rd_T48 l0 x11_1).f3), .int .i64 ((rd_T48 l0 x11_1).f4), .bool false, .int .i64 0, .int .i64 0]) ?_ 5 _ rfl; (with_reducible repeat (first | refine Qe ?_ _ | refine Qg ?_ | refine Qf ?_ _)); refine Qk (cs := #[.int .i64 ((rd_T48 l0 x11_1).f0), .int .i64 ((rd_T48 l0 x11_1).f1), .int .i64 ((rd_T48 l0 x11_1).f2), .bool ((rd_T48 l0 x11_1).f3), .int .i64 0, .bool false, .int .i64 0, .int .i64 0]) ?_ 4 _ rfl; (with_reducible repeat (first | refine Qe ?_ _ | refine Qg ?_ | refine Qf ?_ _)); refine Qk (cs := #[.int .i64 ((rd_T48 l0 x11_1).f0), .int .i64 ((rd_T48 l0 x11_1).f1), .int .i64 ((rd_T48 l0 x11_1).f2), .bool false, .int .i64 0, .bool false, .int .i64 0, .int .i64 0]) ?_ 3 _ rfl; (with_reducible repeat (first | refine Qe ?_ _ | refine Qg ?_ | refine Qf ?_ _)); refine Qk (cs := #[.int .i64 ((rd_T48 l0 x11_1).f0), .int .i64 ((rd_T48 l0 x11_1).f1), .int .i64 0, .bool false, .int .i64 0, .bool false, .int .i64 0, .int .i64 0]) ?_ 2 _ rfl; (with_reducible repeat (first | refine Qe ?_ _ | refine Qg ?_ | refine Qf ?_ _)); refine Qk (cs := #[.int .i64 ((rd_T48 l0 x11_1).f0), .int .i64 0, .int .i64 0, .bool false, .int .i64 0, .bool false, .int .i64 0, .int .i64 0]) ?_ 1 _ rfl; (with_reducible repeat (first | refine Qe ?_ _ | refine Qg ?_ | refine Qf ?_ _)); refine Qk (cs := #[.int .i64 0, .int .i64 0, .int .i64 0, .bool false, .int .i64 0, .bool false, .int .i64 0, .int .i64 0]) ?_ 0 _ rfl; (with_reducible repeat (first | refine Qe ?_ _ | refine Qg ?_ | refine Qf ?_ _)); exact BK15.out) hb); have n1_ := Qz.mk (Qq (by repeat (first | (with_reducible first | exact HB.out | apply Qc | apply Qa | apply Qb | refine Qd ?_ GE15.out) | exact HB.out)) hb); clear BK15; clear HB; have BK15 := n0_; have HB := n1_; clear n0_ n1_; (try clear hb); (try clear hb2); (try clear hk); (try clear hi)))
       go_roundg k1
       case measure => have := HK1.out; omega
       case rel => exact ⟨(wrap64 (x11_1 + 1)), (by first | rfl | (simp; done) | (simp [*]; done)), H', ⟨by have := HK1.out; omega⟩, ⟨by repeat (first | (with_reducible first | exact HB.out | apply Qc | apply Qa | apply Qb | refine Qd ?_ GE15.out) | exact HB.out)⟩⟩
      rw [if_neg c7] at H
      have c7b0 : (t17 == 0) = false := beq_eq_false_iff_ne.mpr c7
      have c7b1 : (t17 != 0) = true := bne_iff_ne.mpr c7
      obtain rfl := Option.some.inj H
      have p421 : 0 ≤ (x11_1 : Int) := of_decide_eq_true (by first | (with_reducible assumption) | assumption)
      have q14 : x11_1 < (l0.length : Int) := of_decide_eq_true (by first | (with_reducible assumption) | assumption)
      obtain ⟨ad14, e421, hx14_0, hx14_1, hx14_2, hx14_3, hx14_4, hx14_5, hx14_6, hx14_7⟩ := at_T48 (Kd.Qac HR0.out HB.out) x11_1 p421 q14
      cases e421
      replace p421 := eq_true p421
      replace q14 := eq_true q14
      go_wp2_with (first | ((with_reducible refine gate_dst (N := 4) rfl ?_); refine box_event ?hg (N := 4) ?hd (cs := #[.int .i64 0, .int .i64 0, .int .i64 0, .bool false, .int .i64 0, .bool false, .int .i64 0, .int .i64 0]) (t := 48) ?hr ?_; (case hd => rfl); (case hg => rfl); (case hr => first | (go_simp; done) | (go_simp; rfl)); intro gb15 hg w11 hbox hb; have n0_ := Qz.mk (Qq (by repeat (first | (with_reducible first | exact HB.out | apply Qc | apply Qa | apply Qb) | exact HB.out)) hb); have n1_ := Qz.mk (hbox); have n2_ := Qz.mk ((by rw [hg]; exact (Qp (by repeat (first | (with_reducible first | exact HB.out | apply Qc | apply Qa | apply Qb) | exact HB.out))) : w.heap.size ≤ gb15)); have n3_ := n2_; clear HB; have HB := n0_; have BK15 := n1_; have GW15 := n2_; have GE15 := n3_; clear n0_ n1_ n2_ n3_; clear hb hbox hg; obtain ⟨z12_0, z12_1, z12_2, z12_3, z12_4, z12_5, z12_6, z12_7, j12_0, j12_1, j12_2, j12_3, j12_4, j12_5, j12_6, j12_7⟩ := Lv.blks8 BK15.out) | ((with_reducible refine gate_callee (f := 82) rfl ?_); refine Qat (some 16) rfl rfl Try.func82 (by kernel_rfl) rfl #[.agg #[.int .i64 ((rd_T48 l0 x11_1).f0), .int .i64 ((rd_T48 l0 x11_1).f1), .int .i64 ((rd_T48 l0 x11_1).f2), .bool ((rd_T48 l0 x11_1).f3), .int .i64 ((rd_T48 l0 x11_1).f4), .bool ((rd_T48 l0 x11_1).f5), .int .i64 ((rd_T48 l0 x11_1).f6), .int .i64 ((rd_T48 l0 x11_1).f7)]] rfl (by (try simp only [Qj4, Qj5, Qj6]); first | done | rfl | (simp only [Qj7, Qj8]; rfl)) ?_; (with_reducible refine (ZiRecFault.calls k1 ((rd_T48 l0 x11_1).f0) ((rd_T48 l0 x11_1).f1) ((rd_T48 l0 x11_1).f2) ((rd_T48 l0 x11_1).f3) ((rd_T48 l0 x11_1).f4) ((rd_T48 l0 x11_1).f5) ((rd_T48 l0 x11_1).f6) ((rd_T48 l0 x11_1).f7) t17 _ A6.out).mono ?_); rintro e w13 ⟨rfl, hb⟩; refine ⟨_, rfl, ?_⟩; have n0_ := Qz.mk (Qi (g := gb15) (o := .cells #[.int .i64 ((rd_T48 l0 x11_1).f0), .int .i64 ((rd_T48 l0 x11_1).f1), .int .i64 ((rd_T48 l0 x11_1).f2), .bool ((rd_T48 l0 x11_1).f3), .int .i64 ((rd_T48 l0 x11_1).f4), .bool ((rd_T48 l0 x11_1).f5), .int .i64 ((rd_T48 l0 x11_1).f6), .int .i64 ((rd_T48 l0 x11_1).f7)] 48 (0, 0)) (by (with_reducible repeat (first | refine Qe ?_ _ | refine Qg ?_ | refine Qf ?_ _)); refine Qk (cs := #[.int .i64 ((rd_T48 l0 x11_1).f0), .int .i64 ((rd_T48 l0 x11_1).f1), .int .i64 ((rd_T48 l0 x11_1).f2), .bool ((rd_T48 l0 x11_1).f3), .int .i64 ((rd_T48 l0 x11_1).f4), .bool ((rd_T48 l0 x11_1).f5), .int .i64 ((rd_T48 l0 x11_1).f6), .int .i64 0]) ?_ 7 _ rfl; (with_reducible repeat (first | refine Qe ?_ _ | refine Qg ?_ | refine Qf ?_ _)); refine Qk (cs := #[.int .i64 ((rd_T48 l0 x11_1).f0), .int .i64 ((rd_T48 l0 x11_1).f1), .int .i64 ((rd_T48 l0 x11_1).f2), .bool ((rd_T48 l0 x11_1).f3), .int .i64 ((rd_T48 l0 x11_1).f4), .bool ((rd_T48 l0 x11_1).f5), .int .i64 0, .int .i64 0]) ?_ 6 _ rfl; (with_reducible repeat (first | refine Qe ?_ _ | refine Qg ?_ | refine Qf ?_ _)); refine Qk (cs := #[.int .i64 ((rd_T48 l0 x11_1).f0), .int .i64 ((rd_T48 l0 x11_1).f1), .int .i64 ((rd_T48 l0 x11_1).f2), .bool ((rd_T48 l0 x11_1).f3), .int .i64 ((rd_T48 l0 x11_1).f4), .bool false, .int .i64 0, .int .i64 0]) ?_ 5 _ rfl; (with_reducible repeat (first | refine Qe ?_ _ | refine Qg ?_ | refine Qf ?_ _)); refine Qk (cs := #[.int .i64 ((rd_T48 l0 x11_1).f0), .int .i64 ((rd_T48 l0 x11_1).f1), .int .i64 ((rd_T48 l0 x11_1).f2), .bool ((rd_T48 l0 x11_1).f3), .int .i64 0, .bool false, .int .i64 0, .int .i64 0]) ?_ 4 _ rfl; (with_reducible repeat (first | refine Qe ?_ _ | refine Qg ?_ | refine Qf ?_ _)); refine Qk (cs := #[.int .i64 ((rd_T48 l0 x11_1).f0), .int .i64 ((rd_T48 l0 x11_1).f1), .int .i64 ((rd_T48 l0 x11_1).f2), .bool false, .int .i64 0, .bool false, .int .i64 0, .int .i64 0]) ?_ 3 _ rfl; (with_reducible repeat (first | refine Qe ?_ _ | refine Qg ?_ | refine Qf ?_ _)); refine Qk (cs := #[.int .i64 ((rd_T48 l0 x11_1).f0), .int .i64 ((rd_T48 l0 x11_1).f1), .int .i64 0, .bool false, .int .i64 0, .bool false, .int .i64 0, .int .i64 0]) ?_ 2 _ rfl; (with_reducible repeat (first | refine Qe ?_ _ | refine Qg ?_ | refine Qf ?_ _)); refine Qk (cs := #[.int .i64 ((rd_T48 l0 x11_1).f0), .int .i64 0, .int .i64 0, .bool false, .int .i64 0, .bool false, .int .i64 0, .int .i64 0]) ?_ 1 _ rfl; (with_reducible repeat (first | refine Qe ?_ _ | refine Qg ?_ | refine Qf ?_ _)); refine Qk (cs := #[.int .i64 0, .int .i64 0, .int .i64 0, .bool false, .int .i64 0, .bool false, .int .i64 0, .int .i64 0]) ?_ 0 _ rfl; (with_reducible repeat (first | refine Qe ?_ _ | refine Qg ?_ | refine Qf ?_ _)); exact BK15.out) hb); have n1_ := Qz.mk (Qq (by repeat (first | (with_reducible first | exact HB.out | apply Qc | apply Qa | apply Qb | refine Qd ?_ GE15.out) | exact HB.out)) hb); clear BK15; clear HB; have BK15 := n0_; have HB := n1_; clear n0_ n1_; (try clear hb); (try clear hb2); (try clear hk); (try clear hi)))
      go_ret
      exact ⟨by first | rfl | (simp [Qv, Qu] <;> rfl) | (simp [*, Qv, Qu] <;> rfl), by repeat (first | (with_reducible first | exact HB.out | apply Qc | apply Qa | apply Qb | refine Qd ?_ GE15.out) | exact HB.out)⟩
     rw [if_neg c5] at H
     exact absurd H (by simp)
    rw [if_neg c4] at H
    exact absurd H (by simp)
   rw [if_neg c3] at H
   have c3b0 : decide (x11_1 < (l0.length : Int)) = false := decide_eq_false c3
   clear c3
   obtain rfl := Option.some.inj H
   go_wp2
   go_ret
   exact ⟨by first | rfl | (simp [Qv, Qu] <;> rfl) | (simp [*, Qv, Qu] <;> rfl), by repeat (first | (with_reducible first | exact HB.out | apply Qc | apply Qa | apply Qb) | exact HB.out)⟩
-- PROOF --
set_option maxHeartbeats 8000000 in
set_option maxRecDepth 100000 in
theorem ZcIndexFunc_impl_Rec.calls (g : Nat) (lb : Array Value) (p : S48 → Bool) (A0 : Option Addr) (c0 : Nat) (l0 : List (S48)) (w : World) (hr0 : Kd.C k48 w A0 l0.length l0)
 (hp : ∀ (W : World) (x : S48), x ∈ l0 → Below w.heap.size w W → Calls Try.prog g (#[.agg #[.int .i64 x.f0, .int .i64 x.f1, .int .i64 x.f2, .bool x.f3, .int .i64 x.f4, .bool x.f5, .int .i64 x.f6, .int .i64 x.f7]] ++ lb) W fun e w' => e = .returned (.bool (p x)) ∧ Below W.heap.size W w')
 (eg : ∀ args w, (callFunc g args).run Try.prog w = .ok (.enter g args) w) :
 Calls Try.prog 102 #[.slice A0 l0.length c0, .func (.func g) #[] lb] w fun e w' => e = .returned (.int .i64 (Go.Proofs.Ythagppmaofcllaa.Lb.idx p l0)) ∧ Below w.heap.size w w' := by
 have hu48 := Try.underlying48
 have hn := hr0.2.1
 have HR0 := Qz.mk hr0
 clear hr0
 go_enter Try.func102, Try.ntmps102
 go_wp2
 go_loopg [5, 8] (l0.length + 1) (fun gg _ s8 wr => ∃ x : Int, 0 ≤ x ∧ x ≤ (l0.length : Int) ∧ Qz (l0.length + 1 - x.toNat ≤ gg) ∧ s8 = .int .i64 x ∧ Qz (Below w.heap.size w wr) ∧ Qz (∀ j : Nat, j < x.toNat → p (l0.getD j z48) = false))
 case atStart => exact ⟨0, by omega, by omega, ⟨by simp⟩, rfl, ⟨Below.refl _ _⟩, ⟨fun j hj => by simp at hj⟩⟩
 case round =>
  obtain ⟨x, hx0, hx1, HG, rfl, HB, HA⟩ := hrel
  by_cases c3 : x < (l0.length : Int)
  ·have c3b0 : decide (x < (l0.length : Int)) = true := decide_eq_true c3
   have c4b0 : decide (0 ≤ x) = true := decide_eq_true hx0
   obtain ⟨ad, e1, q0, q1, q2, q3, q4, q5, q6, q7⟩ := at_T48 HR0.out x hx0 c3
   cases e1
   replace q0 := (HB.out.cell (World.block_lt_of_cell? w _ q0)).trans q0
   replace q1 := (HB.out.cell (World.block_lt_of_cell? w _ q1)).trans q1
   replace q2 := (HB.out.cell (World.block_lt_of_cell? w _ q2)).trans q2
   replace q3 := (HB.out.cell (World.block_lt_of_cell? w _ q3)).trans q3
   replace q4 := (HB.out.cell (World.block_lt_of_cell? w _ q4)).trans q4
   replace q5 := (HB.out.cell (World.block_lt_of_cell? w _ q5)).trans q5
   replace q6 := (HB.out.cell (World.block_lt_of_cell? w _ q6)).trans q6
   replace q7 := (HB.out.cell (World.block_lt_of_cell? w _ q7)).trans q7
   have hx : x.toNat < l0.length := by omega
   have hrd : rd_T48 l0 x = l0.getD x.toNat z48 := rfl
   have hcall := hp wr (rd_T48 l0 x) (by rw [hrd, List.getD_eq_getElem?_getD, List.getElem?_eq_getElem hx]; exact List.getElem_mem hx) HB.out
   clear hp hrd
   cases hq : p (rd_T48 l0 x) with
   | true =>
    rw [hq] at hcall
    have HQ := Qz.mk hq
    clear hq
    go_wp2_with (go_at_fn g; refine hcall.mono ?_; rintro e w' ⟨rfl, hb'⟩)
    go_ret
    refine ⟨?_, HB.out.trans (hb'.mono HB.out.size)⟩
    unfold Go.Proofs.Ythagppmaofcllaa.Lb.idx
    rw [Go.Proofs.Ythagppmaofcllaa.Lb.idx_hit p z48 l0 x.toNat 0 hx HA.out HQ.out]
    rw [show (0 : Int) + (x.toNat : Int) = x by omega]
    rfl
   | false =>
    rw [hq] at hcall
    have HQ := Qz.mk hq
    clear hq
    go_wp2_with (go_at_fn g; refine hcall.mono ?_; rintro e w' ⟨rfl, hb'⟩)
    go_roundg (l0.length + 1 - (x + 1).toNat)
    case measure => have := HG.out; omega
    case rel => exact ⟨x + 1, by omega, by omega, ⟨by omega⟩, by first | rfl | go_num, ⟨HB.out.trans (hb'.mono HB.out.size)⟩, ⟨fun j hj => by
     by_cases e : j = x.toNat
     ·subst e; exact HQ.out
     exact HA.out j (by omega)⟩⟩
  have hxx : x = (l0.length : Int) := by omega
  have c3b0 : decide (x < (l0.length : Int)) = false := decide_eq_false c3
  have hm : Go.Proofs.Ythagppmaofcllaa.Lb.idx p l0 = -1 := by
   unfold Go.Proofs.Ythagppmaofcllaa.Lb.idx
   exact Go.Proofs.Ythagppmaofcllaa.Lb.idx_miss p z48 l0 0 (fun j hj => HA.out j (by omega))
  have HM := Qz.mk hm
  clear hm
  have HX := Qz.mk hxx
  clear hxx
  go_wp2
  go_ret
  exact ⟨by rw [HM.out]; rfl, HB.out⟩
-- PROOF --
set_option maxHeartbeats 8000000 in
set_option maxRecDepth 100000 in
theorem ZcContainsFunc_impl_Rec.calls (g : Nat) (lb : Array Value) (p : S48 → Bool) (A0 : Option Addr) (c0 : Nat) (l0 : List (S48)) (w : World) (hr0 : Kd.C k48 w A0 l0.length l0)
 (hp : ∀ (W : World) (x : S48), x ∈ l0 → Below w.heap.size w W → Calls Try.prog g (#[.agg #[.int .i64 x.f0, .int .i64 x.f1, .int .i64 x.f2, .bool x.f3, .int .i64 x.f4, .bool x.f5, .int .i64 x.f6, .int .i64 x.f7]] ++ lb) W fun e w' => e = .returned (.bool (p x)) ∧ Below W.heap.size W w')
 (eg : ∀ args w, (callFunc g args).run Try.prog w = .ok (.enter g args) w) :
 Calls Try.prog 88 #[.slice A0 l0.length c0, .func (.func g) #[] lb] w fun e w' => e = .returned (.bool (l0.any p)) ∧ Below w.heap.size w w' := by
 have hcon := ZcIndexFunc_impl_Rec.calls g lb p A0 c0 l0 w hr0 hp eg
 rw [← Go.Proofs.Ythagppmaofcllaa.Lb.idx_any p l0]
 clear hr0 hp
 generalize Go.Proofs.Ythagppmaofcllaa.Lb.idx p l0 = r at hcon ⊢
 have HC := Qz.mk hcon
 clear hcon
 go_enter Try.func88, Try.ntmps88
 go_wp2_with (go_at_call 102; refine HC.out.mono ?_; rintro e w' ⟨rfl, hb'⟩)
 go_ret
 exact ⟨rfl, hb'⟩
-- PROOF --
set_option maxHeartbeats 2000000 in
set_option maxRecDepth 100000 in
theorem Zichain.p_calls (x : S48) (txn n : Int) (B C : Nat) (W : World) (hB : B < W.heap.size) (hC : C < W.heap.size) (q0 : W.cell? ⟨B, 0, none⟩ = some (.int .i64 txn)) (q1 : W.cell? ⟨C, 0, none⟩ = some (.int .i64 n)) :
 Calls Try.prog 89 #[.agg #[.int .i64 x.f0, .int .i64 x.f1, .int .i64 x.f2, .bool x.f3, .int .i64 x.f4, .bool x.f5, .int .i64 x.f6, .int .i64 x.f7], .pointer (some ⟨B, 0, none⟩), .pointer (some ⟨C, 0, none⟩)] W fun e w' => e = .returned (.bool (Zichain.p txn n x)) ∧ Below W.heap.size W w' := by
 have hu48 := Try.underlying48
 rcases x with ⟨a, b, c, d, e, f, g, h⟩
 simp only [Zichain.p]
 have HB := Qz.mk (Below.refl W.heap.size W)
 have hne : B ≠ W.heap.size := by omega
 have hne2 : C ≠ W.heap.size := by omega
 by_cases e1 : a = 5
 ·have t1 : (a == 5) = true := by simpa using e1
  by_cases e2 : b = txn
  ·have t2 : (b == txn) = true := by simpa using e2
   by_cases e3 : h = n
   ·have t3 : (h == n) = true := by simpa using e3
    rw [t1, t2, t3]
    clear e1 e2 e3
    go_enter Try.func89, Try.ntmps89
    go_wp2
    go_ret
    exact ⟨rfl, HB.out.alloc (Nat.le_refl _) _⟩
   have t3 : (h == n) = false := by simpa using e3
   rw [t1, t2, t3]
   clear e1 e2 e3
   go_enter Try.func89, Try.ntmps89
   go_wp2
   go_ret
   exact ⟨rfl, HB.out.alloc (Nat.le_refl _) _⟩
  have t2 : (b == txn) = false := by simpa using e2
  rw [t1, t2]
  clear e1 e2
  go_enter Try.func89, Try.ntmps89
  go_wp2
  go_ret
  exact ⟨rfl, HB.out.alloc (Nat.le_refl _) _⟩
 have t1 : (a == 5) = false := by simpa using e1
 rw [t1]
 clear e1
 go_enter Try.func89, Try.ntmps89
 go_wp2
 go_ret
 exact ⟨rfl, HB.out.alloc (Nat.le_refl _) _⟩
set_option maxHeartbeats 8000000 in
set_option maxRecDepth 100000 in
theorem Zichain.calls (A0 : Option Addr) (c0 : Nat) (l0 : List S48) (a1 : Int) (r : List Int) (w : World) (hr0 : Kd.C k48 w A0 l0.length l0) (hc0 : l0.length ≤ c0) (h : Zichain.f l0 a1 = some r) :
 Calls Try.prog 58 #[.slice A0 l0.length c0, .int .i64 a1] w fun e w' => ∃ v0_ : Value, e = .returned (v0_) ∧ Kd.R (Kd.int .i64) 2 w' w.heap.size (fun _ => True) v0_ r ∧ Below w.heap.size w w' := by
 have hu48 := Try.underlying48
 have hn := hr0.2.1
 unfold Zichain.f at h
 by_cases hl : l0.length < 17592186044416
 ·rw [if_pos hl] at h
  have H := Qz.mk (Option.some.inj h)
  clear h
  have HL := Qz.mk hl
  have HR0 := Qz.mk hr0
  have HC0 := Qz.mk hc0
  clear hr0 hc0 hl
  have HB := Qz.mk (Below.refl w.heap.size w)
  go_enter Try.func58, Try.ntmps58
  go_wp2_with (first | ((with_reducible refine gate_dst (N := 9) rfl ?_); refine Kd.R_lit (Kd.int .i64) _ 2 ?hg (N := 9) ?hd (xs := ([] : List Int)) (inner := []) (ok := fun k => k ≠ w.heap.size) (okp := fun _ => False) ?hr ?hp (fun _ hk => hk.elim) (by simp) (Below.refl _ _) (Nat.le_refl _) (by simp) ?_; (case hd => rfl); (case hg => rfl); (case hr => first | (go_simp; done) | (go_simp; rfl)); (case hp => exact (Reps.none _ _)); intro v10 w3 ho4 hb hg_ hnew_; clear hg_ hnew_; have HO := Qz.mk (Kd.Qan ho4 (by simp : w.heap.size ≤ _)); have BK := Qz.mk (Qi (blk_new w (.cells #[.int .i64 a1] 2 (0, 0))) hb); have HB1 := Qz.mk (Qq (Qc HB.out _) hb); clear HB; have HB := HB1; clear HB1; clear hb ho4))
  go_loopg [5, 6] (l0.length + 1) (fun gg v5 v6 w' => ∃ (m : Nat) (out : List Int), m ≤ l0.length ∧ v6 = .int .i64 ((m : Int) - 1) ∧ Qz (m < gg) ∧ Qz (out.length + m ≤ l0.length) ∧ Qz (Zichain.go l0 a1 m out = r) ∧ Qz (Kd.R (Kd.int .i64) 2 w' w.heap.size (fun k_ => k_ ≠ w.heap.size) v5 out) ∧ Qz (Below w.heap.size w w') ∧ Qz (w'.heap[w.heap.size]? = some (.cells #[.int .i64 a1] 2 (0, 0))))
  case atStart => exact ⟨l0.length, [], Nat.le_refl _, rfl, ⟨by omega⟩, ⟨by simp⟩, H, HO, HB, BK⟩
  case round =>
   obtain ⟨m, out, hm, rfl, HG, HLn, HA, HO, HB, BK⟩ := hrel
   cases m with
   | zero =>
    have c1 : decide (0 ≤ ((0 : Nat) : Int) - 1) = false := by decide
    have HE : out = r := HA.out
    subst HE
    clear HA H
    go_wp2
    go_ret
    exact ⟨_, rfl, Kd.Qw HO.out (fun _ _ => trivial), HB.out⟩
   | succ m =>
    have hlt : m < l0.length := hm
    have e1 : (((m + 1 : Nat) : Int) - 1) = (m : Int) := by omega
    rw [e1]
    clear e1
    have g0 : (0 : Int) ≤ (m : Int) := by omega
    have g1 : (m : Int) < (l0.length : Int) := by omega
    have g2 : (0 : Int) ≤ (m : Int) + 1 := by omega
    have g3 : (m : Int) + 1 ≤ (l0.length : Int) := by omega
    have g4 : (m : Int) + 1 ≤ 9223372036854775807 := by omega
    obtain ⟨ad, ea, hx0, hx1, hx2, hx3, hx4, hx5, hx6, hx7⟩ := at_T48 HR0.out (m : Int) g0 g1
    cases ea
    rw [show (m : Int).toNat = m from Int.toNat_natCast m] at hx0 hx1
    replace hx0 := (HB.out.cell (World.block_lt_of_cell? w _ hx0)).trans hx0
    replace hx1 := (HB.out.cell (World.block_lt_of_cell? w _ hx1)).trans hx1
    clear hx2 hx3 hx4 hx5 hx6 hx7
    obtain ⟨i0, hi0, _, hsz, _⟩ := info_parts info48
    have hcut := cut_from (P := Try.prog) 37 48 .i64 Try.underlying37 hi0 8 hsz (some ad) l0.length c0 ((m : Int) + 1) g2 g3
    obtain ⟨A1, hA1⟩ : ∃ A1, A1 = (if c0 = ((m : Int) + 1).toNat then some ad else (some ad : Option Addr).map (·.add (((m : Int) + 1).toNat * 8))) := ⟨_, rfl⟩
    obtain ⟨c1, hc1⟩ : ∃ c1, c1 = c0 - ((m : Int) + 1).toNat := ⟨_, rfl⟩
    obtain ⟨yd, hyd⟩ : ∃ y, y = l0.drop ((m : Int) + 1).toNat := ⟨_, rfl⟩
    have hr := Kd.C_drop (m := ((m : Int) + 1).toNat) (c := c0) HR0.out (by omega) HC0.out
    have hy : yd.length = l0.length - ((m : Int) + 1).toNat := by rw [hyd, List.length_drop]
    rw [← hyd] at hr
    replace hr : Kd.C k48 w A1 yd.length yd := by rw [hA1]; exact hr
    rw [← hy, ← hA1, ← hc1] at hcut
    have HRd := Qz.mk hr
    have HYD := Qz.mk (show yd = l0.drop (m + 1) from by rw [hyd]; congr 1)
    clear hr hy hA1 hc1 hyd hi0 hsz
    obtain ⟨X, hX⟩ : ∃ x, x = l0.getD m z48 := ⟨_, rfl⟩
    have hrd : rd_T48 l0 (m : Int) = X := by rw [hX]; rfl
    rw [hrd] at hx0 hx1
    have HXq := Qz.mk hX
    clear hX hrd H
    cases hud : yd.any (Zichain.p a1 ((m : Int) + 1)) with
    | true =>
     have HUD := Qz.mk hud
     clear hud
     by_cases e1 : X.f0 = 2
     ·have t1 : (X.f0 == 2) = true := by simpa using e1
      clear e1
      by_cases e2 : X.f1 = a1
      ·have t2 : (X.f1 == a1) = true := by simpa using e2
       clear e2
       have hh : Zichain.hit l0 a1 m = false := by unfold Zichain.hit; rw [← HXq.out, ← HYD.out, t1, t2, HUD.out]; rfl
       have HA2 := Qz.mk (show Zichain.go l0 a1 m (out) = r from by have h2 := HA.out; unfold Zichain.go at h2; rw [hh] at h2; exact h2)
       clear HA hh
       go_wp2_with (first | ((with_reducible refine gate_dst (N := 7) rfl ?_); refine box_event ?hg (N := 7) ?hd (cs := #[.int .i64 0]) (t := 2) ?hr ?_; (case hd => rfl); (case hg => rfl); (case hr => first | (go_simp; done) | (go_simp; rfl)); intro gb hg w16 hbox hb; have HO1 := Qz.mk (Kd.Qy (Kd.Qap HO.out gb (by rw [hg]; exact Nat.le_refl _)) hb); have BK1 := Qz.mk (Qi BK.out hb); have BN := Qz.mk hbox; have HB1 := Qz.mk (Qq HB.out hb); have GE := Qz.mk (show w.heap.size < gb from by rw [hg]; exact Ql BK.out); have HNA := Qz.mk (show (ad.add (m * 8)).block ≠ gb from Nat.ne_of_lt (Nat.lt_of_lt_of_le (World.block_lt_of_cell? _ _ hx0) (by rw [hg]; exact Nat.le_refl _))); have hcz : w16.cell? ⟨gb, 0, none⟩ = some (.int .i64 0) := (Qh hbox 0).trans rfl; have hfz := Qj hbox 0; replace hx0 := (hb.cell (World.block_lt_of_cell? _ _ hx0)).trans hx0; replace hx1 := (hb.cell (World.block_lt_of_cell? _ _ hx1)).trans hx1; clear HO BK HB hb hbox hg) | (go_at_call 88; have BN2 := Qz.mk (show (w16.setCell ⟨gb, 0, none⟩ (.int .i64 ((m : Int) + 1))).heap[gb]? = some (.cells #[.int .i64 ((m : Int) + 1)] 2 (0, 0)) from by simpa using blk_set BN.out 0 (.int .i64 ((m : Int) + 1))); have BK2 := Qz.mk (blk_far BK1.out (p := ⟨gb, 0, none⟩) (Nat.ne_of_lt GE.out) (.int .i64 ((m : Int) + 1))); have HB2 := Qz.mk (Qd (j := 0) (v := .int .i64 ((m : Int) + 1)) HB1.out (Nat.le_of_lt GE.out)); have HO2 := Qz.mk (Kd.Qx (p := ⟨gb, 0, none⟩) HO1.out (fun _ hk => hk.2) (.int .i64 ((m : Int) + 1))); have NX0 := Qz.mk ((World.cell?_of_block (Below.heap_setCell w16 ⟨gb, 0, none⟩ (.int .i64 ((m : Int) + 1)) _ HNA.out)).trans hx0); have NX1 := Qz.mk ((World.cell?_of_block (a := ⟨(ad.add (m * 8)).block, (ad.add (m * 8)).off + 1, none⟩) (Below.heap_setCell w16 ⟨gb, 0, none⟩ (.int .i64 ((m : Int) + 1)) _ HNA.out)).trans hx1); clear hx0 hx1; refine (ZcContainsFunc_impl_Rec.calls 89 #[.pointer (some ⟨w.heap.size, 0, none⟩), .pointer (some ⟨gb, 0, none⟩)] (Zichain.p a1 ((m : Int) + 1)) A1 c1 yd _ (Kd.Qac HRd.out HB2.out) (fun W x _ hb2 => Zichain.p_calls x a1 _ w.heap.size gb W (Nat.lt_of_lt_of_le (Ql BK2.out) hb2.size) (Nat.lt_of_lt_of_le (Ql BN2.out) hb2.size) ((Qh (Qi BK2.out hb2) 0).trans rfl) ((Qh (Qi BN2.out hb2) 0).trans rfl)) (enters_of Try.func89 (by kernel_rfl) rfl)).mono ?_; rintro e w17 ⟨rfl, hb'⟩; rw [HUD.out]; have hx0 := (hb'.cell (World.block_lt_of_cell? _ _ NX0.out)).trans NX0.out; have hx1 := (hb'.cell (World.block_lt_of_cell? _ _ NX1.out)).trans NX1.out; have z2 : w17.cell? ⟨gb, 0, none⟩ = some (.int .i64 ((m : Int) + 1)) := (Qh (Qi BN2.out hb') 0).trans rfl; have z3 : w17.cell? ⟨w.heap.size, 0, none⟩ = some (.int .i64 a1) := (Qh (Qi BK2.out hb') 0).trans rfl; have HO := Qz.mk (Kd.Qw (Kd.Qy HO2.out hb') (fun _ hk => hk.1)); have BK := Qz.mk (Qi BK2.out hb'); have HB := Qz.mk (Qq HB2.out hb'); clear hb' HB1 HB2 BK1 BK2 HO1 HO2 BN BN2 hcz hfz) | ((with_reducible refine gate_builtin (b := .append) (xs := #[.tmp 44, .tmp 46]) rfl ?_); at_builtin; refine Kd.R_append (Kd.int .i64) (w0 := w) w.heap.size rfl (.tmp 44) (.tmp 46) 33 2 (.int .i64 0) 8 rfl Try.underlying33 info2 rfl (by decide) (by omega) u5 out ((m : Int) + 1) [.int .i64 ((m : Int) + 1)] (fun k_ => k_ ≠ w.heap.size) (fun _ => False) rfl (by first | (go_simp; done) | (go_simp; rfl)) ?aP (fun _ hk => hk.elim) ?aF ?aO ?aB ?aS ?aL ?_; (case aP => exact rfl); (case aF => exact (fun k_ hk => by have := Ql BK.out; simp at hk; omega)); (case aO => exact HO.out); (case aB => exact HB.out); (case aS => exact Qp HB.out); (case aL => have := HLn.out; have := HL.out; omega); intro v1 w19 ho2 hb2 hg2 _; have BK3 := Qz.mk (blk_grown BK.out hg2 (fun e => HO.out.1 _ e.symm rfl)); have HO3 := Qz.mk ho2; have HB3 := Qz.mk hb2; clear ho2 hb2 hg2))
       go_quiet (fail)
       go_wp2
       go_roundg m.succ
       case measure => have := HG.out; omega
       case rel => exact ⟨m, out, Nat.le_of_lt hlt, by first | rfl | go_num, ⟨Nat.lt_succ_self _⟩, ⟨by have := HLn.out; omega⟩, HA2, ⟨by (with_reducible repeat (first | apply Kd.Qm)); exact HO.out⟩, ⟨by repeat (first | (with_reducible first | exact HB.out | apply Qa) | exact HB.out)⟩, ⟨Qe BK.out _⟩⟩
      have t2 : (X.f1 == a1) = false := by simpa using e2
      clear e2
      have hh : Zichain.hit l0 a1 m = false := by unfold Zichain.hit; rw [← HXq.out, ← HYD.out, t1, t2, HUD.out]; rfl
      have HA2 := Qz.mk (show Zichain.go l0 a1 m (out) = r from by have h2 := HA.out; unfold Zichain.go at h2; rw [hh] at h2; exact h2)
      clear HA hh
      go_wp2_with (first | ((with_reducible refine gate_dst (N := 7) rfl ?_); refine box_event ?hg (N := 7) ?hd (cs := #[.int .i64 0]) (t := 2) ?hr ?_; (case hd => rfl); (case hg => rfl); (case hr => first | (go_simp; done) | (go_simp; rfl)); intro gb hg w16 hbox hb; have HO1 := Qz.mk (Kd.Qy (Kd.Qap HO.out gb (by rw [hg]; exact Nat.le_refl _)) hb); have BK1 := Qz.mk (Qi BK.out hb); have BN := Qz.mk hbox; have HB1 := Qz.mk (Qq HB.out hb); have GE := Qz.mk (show w.heap.size < gb from by rw [hg]; exact Ql BK.out); have HNA := Qz.mk (show (ad.add (m * 8)).block ≠ gb from Nat.ne_of_lt (Nat.lt_of_lt_of_le (World.block_lt_of_cell? _ _ hx0) (by rw [hg]; exact Nat.le_refl _))); have hcz : w16.cell? ⟨gb, 0, none⟩ = some (.int .i64 0) := (Qh hbox 0).trans rfl; have hfz := Qj hbox 0; replace hx0 := (hb.cell (World.block_lt_of_cell? _ _ hx0)).trans hx0; replace hx1 := (hb.cell (World.block_lt_of_cell? _ _ hx1)).trans hx1; clear HO BK HB hb hbox hg) | (go_at_call 88; have BN2 := Qz.mk (show (w16.setCell ⟨gb, 0, none⟩ (.int .i64 ((m : Int) + 1))).heap[gb]? = some (.cells #[.int .i64 ((m : Int) + 1)] 2 (0, 0)) from by simpa using blk_set BN.out 0 (.int .i64 ((m : Int) + 1))); have BK2 := Qz.mk (blk_far BK1.out (p := ⟨gb, 0, none⟩) (Nat.ne_of_lt GE.out) (.int .i64 ((m : Int) + 1))); have HB2 := Qz.mk (Qd (j := 0) (v := .int .i64 ((m : Int) + 1)) HB1.out (Nat.le_of_lt GE.out)); have HO2 := Qz.mk (Kd.Qx (p := ⟨gb, 0, none⟩) HO1.out (fun _ hk => hk.2) (.int .i64 ((m : Int) + 1))); have NX0 := Qz.mk ((World.cell?_of_block (Below.heap_setCell w16 ⟨gb, 0, none⟩ (.int .i64 ((m : Int) + 1)) _ HNA.out)).trans hx0); have NX1 := Qz.mk ((World.cell?_of_block (a := ⟨(ad.add (m * 8)).block, (ad.add (m * 8)).off + 1, none⟩) (Below.heap_setCell w16 ⟨gb, 0, none⟩ (.int .i64 ((m : Int) + 1)) _ HNA.out)).trans hx1); clear hx0 hx1; refine (ZcContainsFunc_impl_Rec.calls 89 #[.pointer (some ⟨w.heap.size, 0, none⟩), .pointer (some ⟨gb, 0, none⟩)] (Zichain.p a1 ((m : Int) + 1)) A1 c1 yd _ (Kd.Qac HRd.out HB2.out) (fun W x _ hb2 => Zichain.p_calls x a1 _ w.heap.size gb W (Nat.lt_of_lt_of_le (Ql BK2.out) hb2.size) (Nat.lt_of_lt_of_le (Ql BN2.out) hb2.size) ((Qh (Qi BK2.out hb2) 0).trans rfl) ((Qh (Qi BN2.out hb2) 0).trans rfl)) (enters_of Try.func89 (by kernel_rfl) rfl)).mono ?_; rintro e w17 ⟨rfl, hb'⟩; rw [HUD.out]; have hx0 := (hb'.cell (World.block_lt_of_cell? _ _ NX0.out)).trans NX0.out; have hx1 := (hb'.cell (World.block_lt_of_cell? _ _ NX1.out)).trans NX1.out; have z2 : w17.cell? ⟨gb, 0, none⟩ = some (.int .i64 ((m : Int) + 1)) := (Qh (Qi BN2.out hb') 0).trans rfl; have z3 : w17.cell? ⟨w.heap.size, 0, none⟩ = some (.int .i64 a1) := (Qh (Qi BK2.out hb') 0).trans rfl; have HO := Qz.mk (Kd.Qw (Kd.Qy HO2.out hb') (fun _ hk => hk.1)); have BK := Qz.mk (Qi BK2.out hb'); have HB := Qz.mk (Qq HB2.out hb'); clear hb' HB1 HB2 BK1 BK2 HO1 HO2 BN BN2 hcz hfz) | ((with_reducible refine gate_builtin (b := .append) (xs := #[.tmp 44, .tmp 46]) rfl ?_); at_builtin; refine Kd.R_append (Kd.int .i64) (w0 := w) w.heap.size rfl (.tmp 44) (.tmp 46) 33 2 (.int .i64 0) 8 rfl Try.underlying33 info2 rfl (by decide) (by omega) u5 out ((m : Int) + 1) [.int .i64 ((m : Int) + 1)] (fun k_ => k_ ≠ w.heap.size) (fun _ => False) rfl (by first | (go_simp; done) | (go_simp; rfl)) ?aP (fun _ hk => hk.elim) ?aF ?aO ?aB ?aS ?aL ?_; (case aP => exact rfl); (case aF => exact (fun k_ hk => by have := Ql BK.out; simp at hk; omega)); (case aO => exact HO.out); (case aB => exact HB.out); (case aS => exact Qp HB.out); (case aL => have := HLn.out; have := HL.out; omega); intro v1 w19 ho2 hb2 hg2 _; have BK3 := Qz.mk (blk_grown BK.out hg2 (fun e => HO.out.1 _ e.symm rfl)); have HO3 := Qz.mk ho2; have HB3 := Qz.mk hb2; clear ho2 hb2 hg2))
      go_quiet (fail)
      go_wp2
      go_roundg m.succ
      case measure => have := HG.out; omega
      case rel => exact ⟨m, out, Nat.le_of_lt hlt, by first | rfl | go_num, ⟨Nat.lt_succ_self _⟩, ⟨by have := HLn.out; omega⟩, HA2, ⟨by (with_reducible repeat (first | apply Kd.Qm)); exact HO.out⟩, ⟨by repeat (first | (with_reducible first | exact HB.out | apply Qa) | exact HB.out)⟩, ⟨Qe BK.out _⟩⟩
     have t1 : (X.f0 == 2) = false := by simpa using e1
     clear e1
     by_cases e2 : X.f1 = a1
     ·have t2 : (X.f1 == a1) = true := by simpa using e2
      clear e2
      have hh : Zichain.hit l0 a1 m = false := by unfold Zichain.hit; rw [← HXq.out, ← HYD.out, t1, t2, HUD.out]; rfl
      have HA2 := Qz.mk (show Zichain.go l0 a1 m (out) = r from by have h2 := HA.out; unfold Zichain.go at h2; rw [hh] at h2; exact h2)
      clear HA hh
      go_wp2_with (first | ((with_reducible refine gate_dst (N := 7) rfl ?_); refine box_event ?hg (N := 7) ?hd (cs := #[.int .i64 0]) (t := 2) ?hr ?_; (case hd => rfl); (case hg => rfl); (case hr => first | (go_simp; done) | (go_simp; rfl)); intro gb hg w16 hbox hb; have HO1 := Qz.mk (Kd.Qy (Kd.Qap HO.out gb (by rw [hg]; exact Nat.le_refl _)) hb); have BK1 := Qz.mk (Qi BK.out hb); have BN := Qz.mk hbox; have HB1 := Qz.mk (Qq HB.out hb); have GE := Qz.mk (show w.heap.size < gb from by rw [hg]; exact Ql BK.out); have HNA := Qz.mk (show (ad.add (m * 8)).block ≠ gb from Nat.ne_of_lt (Nat.lt_of_lt_of_le (World.block_lt_of_cell? _ _ hx0) (by rw [hg]; exact Nat.le_refl _))); have hcz : w16.cell? ⟨gb, 0, none⟩ = some (.int .i64 0) := (Qh hbox 0).trans rfl; have hfz := Qj hbox 0; replace hx0 := (hb.cell (World.block_lt_of_cell? _ _ hx0)).trans hx0; replace hx1 := (hb.cell (World.block_lt_of_cell? _ _ hx1)).trans hx1; clear HO BK HB hb hbox hg) | (go_at_call 88; have BN2 := Qz.mk (show (w16.setCell ⟨gb, 0, none⟩ (.int .i64 ((m : Int) + 1))).heap[gb]? = some (.cells #[.int .i64 ((m : Int) + 1)] 2 (0, 0)) from by simpa using blk_set BN.out 0 (.int .i64 ((m : Int) + 1))); have BK2 := Qz.mk (blk_far BK1.out (p := ⟨gb, 0, none⟩) (Nat.ne_of_lt GE.out) (.int .i64 ((m : Int) + 1))); have HB2 := Qz.mk (Qd (j := 0) (v := .int .i64 ((m : Int) + 1)) HB1.out (Nat.le_of_lt GE.out)); have HO2 := Qz.mk (Kd.Qx (p := ⟨gb, 0, none⟩) HO1.out (fun _ hk => hk.2) (.int .i64 ((m : Int) + 1))); have NX0 := Qz.mk ((World.cell?_of_block (Below.heap_setCell w16 ⟨gb, 0, none⟩ (.int .i64 ((m : Int) + 1)) _ HNA.out)).trans hx0); have NX1 := Qz.mk ((World.cell?_of_block (a := ⟨(ad.add (m * 8)).block, (ad.add (m * 8)).off + 1, none⟩) (Below.heap_setCell w16 ⟨gb, 0, none⟩ (.int .i64 ((m : Int) + 1)) _ HNA.out)).trans hx1); clear hx0 hx1; refine (ZcContainsFunc_impl_Rec.calls 89 #[.pointer (some ⟨w.heap.size, 0, none⟩), .pointer (some ⟨gb, 0, none⟩)] (Zichain.p a1 ((m : Int) + 1)) A1 c1 yd _ (Kd.Qac HRd.out HB2.out) (fun W x _ hb2 => Zichain.p_calls x a1 _ w.heap.size gb W (Nat.lt_of_lt_of_le (Ql BK2.out) hb2.size) (Nat.lt_of_lt_of_le (Ql BN2.out) hb2.size) ((Qh (Qi BK2.out hb2) 0).trans rfl) ((Qh (Qi BN2.out hb2) 0).trans rfl)) (enters_of Try.func89 (by kernel_rfl) rfl)).mono ?_; rintro e w17 ⟨rfl, hb'⟩; rw [HUD.out]; have hx0 := (hb'.cell (World.block_lt_of_cell? _ _ NX0.out)).trans NX0.out; have hx1 := (hb'.cell (World.block_lt_of_cell? _ _ NX1.out)).trans NX1.out; have z2 : w17.cell? ⟨gb, 0, none⟩ = some (.int .i64 ((m : Int) + 1)) := (Qh (Qi BN2.out hb') 0).trans rfl; have z3 : w17.cell? ⟨w.heap.size, 0, none⟩ = some (.int .i64 a1) := (Qh (Qi BK2.out hb') 0).trans rfl; have HO := Qz.mk (Kd.Qw (Kd.Qy HO2.out hb') (fun _ hk => hk.1)); have BK := Qz.mk (Qi BK2.out hb'); have HB := Qz.mk (Qq HB2.out hb'); clear hb' HB1 HB2 BK1 BK2 HO1 HO2 BN BN2 hcz hfz) | ((with_reducible refine gate_builtin (b := .append) (xs := #[.tmp 44, .tmp 46]) rfl ?_); at_builtin; refine Kd.R_append (Kd.int .i64) (w0 := w) w.heap.size rfl (.tmp 44) (.tmp 46) 33 2 (.int .i64 0) 8 rfl Try.underlying33 info2 rfl (by decide) (by omega) u5 out ((m : Int) + 1) [.int .i64 ((m : Int) + 1)] (fun k_ => k_ ≠ w.heap.size) (fun _ => False) rfl (by first | (go_simp; done) | (go_simp; rfl)) ?aP (fun _ hk => hk.elim) ?aF ?aO ?aB ?aS ?aL ?_; (case aP => exact rfl); (case aF => exact (fun k_ hk => by have := Ql BK.out; simp at hk; omega)); (case aO => exact HO.out); (case aB => exact HB.out); (case aS => exact Qp HB.out); (case aL => have := HLn.out; have := HL.out; omega); intro v1 w19 ho2 hb2 hg2 _; have BK3 := Qz.mk (blk_grown BK.out hg2 (fun e => HO.out.1 _ e.symm rfl)); have HO3 := Qz.mk ho2; have HB3 := Qz.mk hb2; clear ho2 hb2 hg2))
      go_quiet (fail)
      go_wp2
      go_roundg m.succ
      case measure => have := HG.out; omega
      case rel => exact ⟨m, out, Nat.le_of_lt hlt, by first | rfl | go_num, ⟨Nat.lt_succ_self _⟩, ⟨by have := HLn.out; omega⟩, HA2, ⟨by (with_reducible repeat (first | apply Kd.Qm)); exact HO.out⟩, ⟨by repeat (first | (with_reducible first | exact HB.out | apply Qa) | exact HB.out)⟩, ⟨Qe BK.out _⟩⟩
     have t2 : (X.f1 == a1) = false := by simpa using e2
     clear e2
     have hh : Zichain.hit l0 a1 m = false := by unfold Zichain.hit; rw [← HXq.out, ← HYD.out, t1, t2, HUD.out]; rfl
     have HA2 := Qz.mk (show Zichain.go l0 a1 m (out) = r from by have h2 := HA.out; unfold Zichain.go at h2; rw [hh] at h2; exact h2)
     clear HA hh
     go_wp2_with (first | ((with_reducible refine gate_dst (N := 7) rfl ?_); refine box_event ?hg (N := 7) ?hd (cs := #[.int .i64 0]) (t := 2) ?hr ?_; (case hd => rfl); (case hg => rfl); (case hr => first | (go_simp; done) | (go_simp; rfl)); intro gb hg w16 hbox hb; have HO1 := Qz.mk (Kd.Qy (Kd.Qap HO.out gb (by rw [hg]; exact Nat.le_refl _)) hb); have BK1 := Qz.mk (Qi BK.out hb); have BN := Qz.mk hbox; have HB1 := Qz.mk (Qq HB.out hb); have GE := Qz.mk (show w.heap.size < gb from by rw [hg]; exact Ql BK.out); have HNA := Qz.mk (show (ad.add (m * 8)).block ≠ gb from Nat.ne_of_lt (Nat.lt_of_lt_of_le (World.block_lt_of_cell? _ _ hx0) (by rw [hg]; exact Nat.le_refl _))); have hcz : w16.cell? ⟨gb, 0, none⟩ = some (.int .i64 0) := (Qh hbox 0).trans rfl; have hfz := Qj hbox 0; replace hx0 := (hb.cell (World.block_lt_of_cell? _ _ hx0)).trans hx0; replace hx1 := (hb.cell (World.block_lt_of_cell? _ _ hx1)).trans hx1; clear HO BK HB hb hbox hg) | (go_at_call 88; have BN2 := Qz.mk (show (w16.setCell ⟨gb, 0, none⟩ (.int .i64 ((m : Int) + 1))).heap[gb]? = some (.cells #[.int .i64 ((m : Int) + 1)] 2 (0, 0)) from by simpa using blk_set BN.out 0 (.int .i64 ((m : Int) + 1))); have BK2 := Qz.mk (blk_far BK1.out (p := ⟨gb, 0, none⟩) (Nat.ne_of_lt GE.out) (.int .i64 ((m : Int) + 1))); have HB2 := Qz.mk (Qd (j := 0) (v := .int .i64 ((m : Int) + 1)) HB1.out (Nat.le_of_lt GE.out)); have HO2 := Qz.mk (Kd.Qx (p := ⟨gb, 0, none⟩) HO1.out (fun _ hk => hk.2) (.int .i64 ((m : Int) + 1))); have NX0 := Qz.mk ((World.cell?_of_block (Below.heap_setCell w16 ⟨gb, 0, none⟩ (.int .i64 ((m : Int) + 1)) _ HNA.out)).trans hx0); have NX1 := Qz.mk ((World.cell?_of_block (a := ⟨(ad.add (m * 8)).block, (ad.add (m * 8)).off + 1, none⟩) (Below.heap_setCell w16 ⟨gb, 0, none⟩ (.int .i64 ((m : Int) + 1)) _ HNA.out)).trans hx1); clear hx0 hx1; refine (ZcContainsFunc_impl_Rec.calls 89 #[.pointer (some ⟨w.heap.size, 0, none⟩), .pointer (some ⟨gb, 0, none⟩)] (Zichain.p a1 ((m : Int) + 1)) A1 c1 yd _ (Kd.Qac HRd.out HB2.out) (fun W x _ hb2 => Zichain.p_calls x a1 _ w.heap.size gb W (Nat.lt_of_lt_of_le (Ql BK2.out) hb2.size) (Nat.lt_of_lt_of_le (Ql BN2.out) hb2.size) ((Qh (Qi BK2.out hb2) 0).trans rfl) ((Qh (Qi BN2.out hb2) 0).trans rfl)) (enters_of Try.func89 (by kernel_rfl) rfl)).mono ?_; rintro e w17 ⟨rfl, hb'⟩; rw [HUD.out]; have hx0 := (hb'.cell (World.block_lt_of_cell? _ _ NX0.out)).trans NX0.out; have hx1 := (hb'.cell (World.block_lt_of_cell? _ _ NX1.out)).trans NX1.out; have z2 : w17.cell? ⟨gb, 0, none⟩ = some (.int .i64 ((m : Int) + 1)) := (Qh (Qi BN2.out hb') 0).trans rfl; have z3 : w17.cell? ⟨w.heap.size, 0, none⟩ = some (.int .i64 a1) := (Qh (Qi BK2.out hb') 0).trans rfl; have HO := Qz.mk (Kd.Qw (Kd.Qy HO2.out hb') (fun _ hk => hk.1)); have BK := Qz.mk (Qi BK2.out hb'); have HB := Qz.mk (Qq HB2.out hb'); clear hb' HB1 HB2 BK1 BK2 HO1 HO2 BN BN2 hcz hfz) | ((with_reducible refine gate_builtin (b := .append) (xs := #[.tmp 44, .tmp 46]) rfl ?_); at_builtin; refine Kd.R_append (Kd.int .i64) (w0 := w) w.heap.size rfl (.tmp 44) (.tmp 46) 33 2 (.int .i64 0) 8 rfl Try.underlying33 info2 rfl (by decide) (by omega) u5 out ((m : Int) + 1) [.int .i64 ((m : Int) + 1)] (fun k_ => k_ ≠ w.heap.size) (fun _ => False) rfl (by first | (go_simp; done) | (go_simp; rfl)) ?aP (fun _ hk => hk.elim) ?aF ?aO ?aB ?aS ?aL ?_; (case aP => exact rfl); (case aF => exact (fun k_ hk => by have := Ql BK.out; simp at hk; omega)); (case aO => exact HO.out); (case aB => exact HB.out); (case aS => exact Qp HB.out); (case aL => have := HLn.out; have := HL.out; omega); intro v1 w19 ho2 hb2 hg2 _; have BK3 := Qz.mk (blk_grown BK.out hg2 (fun e => HO.out.1 _ e.symm rfl)); have HO3 := Qz.mk ho2; have HB3 := Qz.mk hb2; clear ho2 hb2 hg2))
     go_quiet (fail)
     go_wp2
     go_roundg m.succ
     case measure => have := HG.out; omega
     case rel => exact ⟨m, out, Nat.le_of_lt hlt, by first | rfl | go_num, ⟨Nat.lt_succ_self _⟩, ⟨by have := HLn.out; omega⟩, HA2, ⟨by (with_reducible repeat (first | apply Kd.Qm)); exact HO.out⟩, ⟨by repeat (first | (with_reducible first | exact HB.out | apply Qa) | exact HB.out)⟩, ⟨Qe BK.out _⟩⟩
    | false =>
     have HUD := Qz.mk hud
     clear hud
     by_cases e1 : X.f0 = 2
     ·have t1 : (X.f0 == 2) = true := by simpa using e1
      clear e1
      by_cases e2 : X.f1 = a1
      ·have t2 : (X.f1 == a1) = true := by simpa using e2
       clear e2
       have hh : Zichain.hit l0 a1 m = true := by unfold Zichain.hit; rw [← HXq.out, ← HYD.out, t1, t2, HUD.out]; rfl
       have HA2 := Qz.mk (show Zichain.go l0 a1 m (out ++ [(m : Int) + 1]) = r from by have h2 := HA.out; unfold Zichain.go at h2; rw [hh] at h2; exact h2)
       clear HA hh
       go_wp2_with (first | ((with_reducible refine gate_dst (N := 7) rfl ?_); refine box_event ?hg (N := 7) ?hd (cs := #[.int .i64 0]) (t := 2) ?hr ?_; (case hd => rfl); (case hg => rfl); (case hr => first | (go_simp; done) | (go_simp; rfl)); intro gb hg w16 hbox hb; have HO1 := Qz.mk (Kd.Qy (Kd.Qap HO.out gb (by rw [hg]; exact Nat.le_refl _)) hb); have BK1 := Qz.mk (Qi BK.out hb); have BN := Qz.mk hbox; have HB1 := Qz.mk (Qq HB.out hb); have GE := Qz.mk (show w.heap.size < gb from by rw [hg]; exact Ql BK.out); have HNA := Qz.mk (show (ad.add (m * 8)).block ≠ gb from Nat.ne_of_lt (Nat.lt_of_lt_of_le (World.block_lt_of_cell? _ _ hx0) (by rw [hg]; exact Nat.le_refl _))); have hcz : w16.cell? ⟨gb, 0, none⟩ = some (.int .i64 0) := (Qh hbox 0).trans rfl; have hfz := Qj hbox 0; replace hx0 := (hb.cell (World.block_lt_of_cell? _ _ hx0)).trans hx0; replace hx1 := (hb.cell (World.block_lt_of_cell? _ _ hx1)).trans hx1; clear HO BK HB hb hbox hg) | (go_at_call 88; have BN2 := Qz.mk (show (w16.setCell ⟨gb, 0, none⟩ (.int .i64 ((m : Int) + 1))).heap[gb]? = some (.cells #[.int .i64 ((m : Int) + 1)] 2 (0, 0)) from by simpa using blk_set BN.out 0 (.int .i64 ((m : Int) + 1))); have BK2 := Qz.mk (blk_far BK1.out (p := ⟨gb, 0, none⟩) (Nat.ne_of_lt GE.out) (.int .i64 ((m : Int) + 1))); have HB2 := Qz.mk (Qd (j := 0) (v := .int .i64 ((m : Int) + 1)) HB1.out (Nat.le_of_lt GE.out)); have HO2 := Qz.mk (Kd.Qx (p := ⟨gb, 0, none⟩) HO1.out (fun _ hk => hk.2) (.int .i64 ((m : Int) + 1))); have NX0 := Qz.mk ((World.cell?_of_block (Below.heap_setCell w16 ⟨gb, 0, none⟩ (.int .i64 ((m : Int) + 1)) _ HNA.out)).trans hx0); have NX1 := Qz.mk ((World.cell?_of_block (a := ⟨(ad.add (m * 8)).block, (ad.add (m * 8)).off + 1, none⟩) (Below.heap_setCell w16 ⟨gb, 0, none⟩ (.int .i64 ((m : Int) + 1)) _ HNA.out)).trans hx1); clear hx0 hx1; refine (ZcContainsFunc_impl_Rec.calls 89 #[.pointer (some ⟨w.heap.size, 0, none⟩), .pointer (some ⟨gb, 0, none⟩)] (Zichain.p a1 ((m : Int) + 1)) A1 c1 yd _ (Kd.Qac HRd.out HB2.out) (fun W x _ hb2 => Zichain.p_calls x a1 _ w.heap.size gb W (Nat.lt_of_lt_of_le (Ql BK2.out) hb2.size) (Nat.lt_of_lt_of_le (Ql BN2.out) hb2.size) ((Qh (Qi BK2.out hb2) 0).trans rfl) ((Qh (Qi BN2.out hb2) 0).trans rfl)) (enters_of Try.func89 (by kernel_rfl) rfl)).mono ?_; rintro e w17 ⟨rfl, hb'⟩; rw [HUD.out]; have hx0 := (hb'.cell (World.block_lt_of_cell? _ _ NX0.out)).trans NX0.out; have hx1 := (hb'.cell (World.block_lt_of_cell? _ _ NX1.out)).trans NX1.out; have z2 : w17.cell? ⟨gb, 0, none⟩ = some (.int .i64 ((m : Int) + 1)) := (Qh (Qi BN2.out hb') 0).trans rfl; have z3 : w17.cell? ⟨w.heap.size, 0, none⟩ = some (.int .i64 a1) := (Qh (Qi BK2.out hb') 0).trans rfl; have HO := Qz.mk (Kd.Qw (Kd.Qy HO2.out hb') (fun _ hk => hk.1)); have BK := Qz.mk (Qi BK2.out hb'); have HB := Qz.mk (Qq HB2.out hb'); clear hb' HB1 HB2 BK1 BK2 HO1 HO2 BN BN2 hcz hfz) | ((with_reducible refine gate_builtin (b := .append) (xs := #[.tmp 44, .tmp 46]) rfl ?_); at_builtin; refine Kd.R_append (Kd.int .i64) (w0 := w) w.heap.size rfl (.tmp 44) (.tmp 46) 33 2 (.int .i64 0) 8 rfl Try.underlying33 info2 rfl (by decide) (by omega) u5 out ((m : Int) + 1) [.int .i64 ((m : Int) + 1)] (fun k_ => k_ ≠ w.heap.size) (fun _ => False) rfl (by first | (go_simp; done) | (go_simp; rfl)) ?aP (fun _ hk => hk.elim) ?aF ?aO ?aB ?aS ?aL ?_; (case aP => exact rfl); (case aF => exact (fun k_ hk => by have := Ql BK.out; simp at hk; omega)); (case aO => exact HO.out); (case aB => exact HB.out); (case aS => exact Qp HB.out); (case aL => have := HLn.out; have := HL.out; omega); intro v1 w19 ho2 hb2 hg2 _; have BK3 := Qz.mk (blk_grown BK.out hg2 (fun e => HO.out.1 _ e.symm rfl)); have HO3 := Qz.mk ho2; have HB3 := Qz.mk hb2; clear ho2 hb2 hg2))
       go_quiet (fail)
       go_wp2_with (((with_reducible refine gate_builtin (b := .append) (xs := #[.tmp 44, .tmp 46]) rfl ?_); at_builtin; refine Kd.R_append (Kd.int .i64) (w0 := w) w.heap.size rfl (.tmp 44) (.tmp 46) 33 2 (.int .i64 0) 8 rfl Try.underlying33 info2 rfl (by decide) (by omega) u5 out ((m : Int) + 1) [.int .i64 ((m : Int) + 1)] (fun k_ => k_ ≠ w.heap.size) (fun _ => False) rfl (by first | (go_simp; done) | (go_simp; rfl)) ?aP (fun _ hk => hk.elim) ?aF ?aO ?aB ?aS ?aL ?_; (case aP => exact rfl); (case aF => exact (fun k_ hk => by have := Ql BK.out; have hk2 : w17.heap.size ≤ k_ := hk; omega)); (case aO => ((with_reducible repeat (first | apply Kd.Qn | apply Kd.Qm | apply Kd.Qo)); exact HO.out)); (case aB => exact (by repeat (first | (with_reducible first | exact HB.out | apply Qc | apply Qa | apply Qb) | exact HB.out))); (case aS => exact (Qp HB.out : w.heap.size ≤ w17.heap.size)); (case aL => have := HLn.out; have := HL.out; omega); intro v1 w19 ho2 hb2 hg2 _; have BK3 := Qz.mk (blk_grown (Qe BK.out _) hg2 (fun e => HO.out.1 _ e.symm rfl)); have HO3 := Qz.mk ho2; have HB3 := Qz.mk hb2; clear ho2 hb2 hg2))
       go_roundg m.succ
       case measure => have := HG.out; omega
       case rel => exact ⟨m, (out ++ [(m : Int) + 1]), Nat.le_of_lt hlt, by first | rfl | go_num, ⟨Nat.lt_succ_self _⟩, ⟨by have := HLn.out; simp; omega⟩, HA2, HO3, HB3, BK3⟩
      have t2 : (X.f1 == a1) = false := by simpa using e2
      clear e2
      have hh : Zichain.hit l0 a1 m = false := by unfold Zichain.hit; rw [← HXq.out, ← HYD.out, t1, t2, HUD.out]; rfl
      have HA2 := Qz.mk (show Zichain.go l0 a1 m (out) = r from by have h2 := HA.out; unfold Zichain.go at h2; rw [hh] at h2; exact h2)
      clear HA hh
      go_wp2_with (first | ((with_reducible refine gate_dst (N := 7) rfl ?_); refine box_event ?hg (N := 7) ?hd (cs := #[.int .i64 0]) (t := 2) ?hr ?_; (case hd => rfl); (case hg => rfl); (case hr => first | (go_simp; done) | (go_simp; rfl)); intro gb hg w16 hbox hb; have HO1 := Qz.mk (Kd.Qy (Kd.Qap HO.out gb (by rw [hg]; exact Nat.le_refl _)) hb); have BK1 := Qz.mk (Qi BK.out hb); have BN := Qz.mk hbox; have HB1 := Qz.mk (Qq HB.out hb); have GE := Qz.mk (show w.heap.size < gb from by rw [hg]; exact Ql BK.out); have HNA := Qz.mk (show (ad.add (m * 8)).block ≠ gb from Nat.ne_of_lt (Nat.lt_of_lt_of_le (World.block_lt_of_cell? _ _ hx0) (by rw [hg]; exact Nat.le_refl _))); have hcz : w16.cell? ⟨gb, 0, none⟩ = some (.int .i64 0) := (Qh hbox 0).trans rfl; have hfz := Qj hbox 0; replace hx0 := (hb.cell (World.block_lt_of_cell? _ _ hx0)).trans hx0; replace hx1 := (hb.cell (World.block_lt_of_cell? _ _ hx1)).trans hx1; clear HO BK HB hb hbox hg) | (go_at_call 88; have BN2 := Qz.mk (show (w16.setCell ⟨gb, 0, none⟩ (.int .i64 ((m : Int) + 1))).heap[gb]? = some (.cells #[.int .i64 ((m : Int) + 1)] 2 (0, 0)) from by simpa using blk_set BN.out 0 (.int .i64 ((m : Int) + 1))); have BK2 := Qz.mk (blk_far BK1.out (p := ⟨gb, 0, none⟩) (Nat.ne_of_lt GE.out) (.int .i64 ((m : Int) + 1))); have HB2 := Qz.mk (Qd (j := 0) (v := .int .i64 ((m : Int) + 1)) HB1.out (Nat.le_of_lt GE.out)); have HO2 := Qz.mk (Kd.Qx (p := ⟨gb, 0, none⟩) HO1.out (fun _ hk => hk.2) (.int .i64 ((m : Int) + 1))); have NX0 := Qz.mk ((World.cell?_of_block (Below.heap_setCell w16 ⟨gb, 0, none⟩ (.int .i64 ((m : Int) + 1)) _ HNA.out)).trans hx0); have NX1 := Qz.mk ((World.cell?_of_block (a := ⟨(ad.add (m * 8)).block, (ad.add (m * 8)).off + 1, none⟩) (Below.heap_setCell w16 ⟨gb, 0, none⟩ (.int .i64 ((m : Int) + 1)) _ HNA.out)).trans hx1); clear hx0 hx1; refine (ZcContainsFunc_impl_Rec.calls 89 #[.pointer (some ⟨w.heap.size, 0, none⟩), .pointer (some ⟨gb, 0, none⟩)] (Zichain.p a1 ((m : Int) + 1)) A1 c1 yd _ (Kd.Qac HRd.out HB2.out) (fun W x _ hb2 => Zichain.p_calls x a1 _ w.heap.size gb W (Nat.lt_of_lt_of_le (Ql BK2.out) hb2.size) (Nat.lt_of_lt_of_le (Ql BN2.out) hb2.size) ((Qh (Qi BK2.out hb2) 0).trans rfl) ((Qh (Qi BN2.out hb2) 0).trans rfl)) (enters_of Try.func89 (by kernel_rfl) rfl)).mono ?_; rintro e w17 ⟨rfl, hb'⟩; rw [HUD.out]; have hx0 := (hb'.cell (World.block_lt_of_cell? _ _ NX0.out)).trans NX0.out; have hx1 := (hb'.cell (World.block_lt_of_cell? _ _ NX1.out)).trans NX1.out; have z2 : w17.cell? ⟨gb, 0, none⟩ = some (.int .i64 ((m : Int) + 1)) := (Qh (Qi BN2.out hb') 0).trans rfl; have z3 : w17.cell? ⟨w.heap.size, 0, none⟩ = some (.int .i64 a1) := (Qh (Qi BK2.out hb') 0).trans rfl; have HO := Qz.mk (Kd.Qw (Kd.Qy HO2.out hb') (fun _ hk => hk.1)); have BK := Qz.mk (Qi BK2.out hb'); have HB := Qz.mk (Qq HB2.out hb'); clear hb' HB1 HB2 BK1 BK2 HO1 HO2 BN BN2 hcz hfz) | ((with_reducible refine gate_builtin (b := .append) (xs := #[.tmp 44, .tmp 46]) rfl ?_); at_builtin; refine Kd.R_append (Kd.int .i64) (w0 := w) w.heap.size rfl (.tmp 44) (.tmp 46) 33 2 (.int .i64 0) 8 rfl Try.underlying33 info2 rfl (by decide) (by omega) u5 out ((m : Int) + 1) [.int .i64 ((m : Int) + 1)] (fun k_ => k_ ≠ w.heap.size) (fun _ => False) rfl (by first | (go_simp; done) | (go_simp; rfl)) ?aP (fun _ hk => hk.elim) ?aF ?aO ?aB ?aS ?aL ?_; (case aP => exact rfl); (case aF => exact (fun k_ hk => by have := Ql BK.out; simp at hk; omega)); (case aO => exact HO.out); (case aB => exact HB.out); (case aS => exact Qp HB.out); (case aL => have := HLn.out; have := HL.out; omega); intro v1 w19 ho2 hb2 hg2 _; have BK3 := Qz.mk (blk_grown BK.out hg2 (fun e => HO.out.1 _ e.symm rfl)); have HO3 := Qz.mk ho2; have HB3 := Qz.mk hb2; clear ho2 hb2 hg2))
      go_quiet (fail)
      go_wp2
      go_roundg m.succ
      case measure => have := HG.out; omega
      case rel => exact ⟨m, out, Nat.le_of_lt hlt, by first | rfl | go_num, ⟨Nat.lt_succ_self _⟩, ⟨by have := HLn.out; omega⟩, HA2, ⟨by (with_reducible repeat (first | apply Kd.Qm)); exact HO.out⟩, ⟨by repeat (first | (with_reducible first | exact HB.out | apply Qa) | exact HB.out)⟩, ⟨Qe BK.out _⟩⟩
     have t1 : (X.f0 == 2) = false := by simpa using e1
     clear e1
     by_cases e2 : X.f1 = a1
     ·have t2 : (X.f1 == a1) = true := by simpa using e2
      clear e2
      have hh : Zichain.hit l0 a1 m = false := by unfold Zichain.hit; rw [← HXq.out, ← HYD.out, t1, t2, HUD.out]; rfl
      have HA2 := Qz.mk (show Zichain.go l0 a1 m (out) = r from by have h2 := HA.out; unfold Zichain.go at h2; rw [hh] at h2; exact h2)
      clear HA hh
      go_wp2_with (first | ((with_reducible refine gate_dst (N := 7) rfl ?_); refine box_event ?hg (N := 7) ?hd (cs := #[.int .i64 0]) (t := 2) ?hr ?_; (case hd => rfl); (case hg => rfl); (case hr => first | (go_simp; done) | (go_simp; rfl)); intro gb hg w16 hbox hb; have HO1 := Qz.mk (Kd.Qy (Kd.Qap HO.out gb (by rw [hg]; exact Nat.le_refl _)) hb); have BK1 := Qz.mk (Qi BK.out hb); have BN := Qz.mk hbox; have HB1 := Qz.mk (Qq HB.out hb); have GE := Qz.mk (show w.heap.size < gb from by rw [hg]; exact Ql BK.out); have HNA := Qz.mk (show (ad.add (m * 8)).block ≠ gb from Nat.ne_of_lt (Nat.lt_of_lt_of_le (World.block_lt_of_cell? _ _ hx0) (by rw [hg]; exact Nat.le_refl _))); have hcz : w16.cell? ⟨gb, 0, none⟩ = some (.int .i64 0) := (Qh hbox 0).trans rfl; have hfz := Qj hbox 0; replace hx0 := (hb.cell (World.block_lt_of_cell? _ _ hx0)).trans hx0; replace hx1 := (hb.cell (World.block_lt_of_cell? _ _ hx1)).trans hx1; clear HO BK HB hb hbox hg) | (go_at_call 88; have BN2 := Qz.mk (show (w16.setCell ⟨gb, 0, none⟩ (.int .i64 ((m : Int) + 1))).heap[gb]? = some (.cells #[.int .i64 ((m : Int) + 1)] 2 (0, 0)) from by simpa using blk_set BN.out 0 (.int .i64 ((m : Int) + 1))); have BK2 := Qz.mk (blk_far BK1.out (p := ⟨gb, 0, none⟩) (Nat.ne_of_lt GE.out) (.int .i64 ((m : Int) + 1))); have HB2 := Qz.mk (Qd (j := 0) (v := .int .i64 ((m : Int) + 1)) HB1.out (Nat.le_of_lt GE.out)); have HO2 := Qz.mk (Kd.Qx (p := ⟨gb, 0, none⟩) HO1.out (fun _ hk => hk.2) (.int .i64 ((m : Int) + 1))); have NX0 := Qz.mk ((World.cell?_of_block (Below.heap_setCell w16 ⟨gb, 0, none⟩ (.int .i64 ((m : Int) + 1)) _ HNA.out)).trans hx0); have NX1 := Qz.mk ((World.cell?_of_block (a := ⟨(ad.add (m * 8)).block, (ad.add (m * 8)).off + 1, none⟩) (Below.heap_setCell w16 ⟨gb, 0, none⟩ (.int .i64 ((m : Int) + 1)) _ HNA.out)).trans hx1); clear hx0 hx1; refine (ZcContainsFunc_impl_Rec.calls 89 #[.pointer (some ⟨w.heap.size, 0, none⟩), .pointer (some ⟨gb, 0, none⟩)] (Zichain.p a1 ((m : Int) + 1)) A1 c1 yd _ (Kd.Qac HRd.out HB2.out) (fun W x _ hb2 => Zichain.p_calls x a1 _ w.heap.size gb W (Nat.lt_of_lt_of_le (Ql BK2.out) hb2.size) (Nat.lt_of_lt_of_le (Ql BN2.out) hb2.size) ((Qh (Qi BK2.out hb2) 0).trans rfl) ((Qh (Qi BN2.out hb2) 0).trans rfl)) (enters_of Try.func89 (by kernel_rfl) rfl)).mono ?_; rintro e w17 ⟨rfl, hb'⟩; rw [HUD.out]; have hx0 := (hb'.cell (World.block_lt_of_cell? _ _ NX0.out)).trans NX0.out; have hx1 := (hb'.cell (World.block_lt_of_cell? _ _ NX1.out)).trans NX1.out; have z2 : w17.cell? ⟨gb, 0, none⟩ = some (.int .i64 ((m : Int) + 1)) := (Qh (Qi BN2.out hb') 0).trans rfl; have z3 : w17.cell? ⟨w.heap.size, 0, none⟩ = some (.int .i64 a1) := (Qh (Qi BK2.out hb') 0).trans rfl; have HO := Qz.mk (Kd.Qw (Kd.Qy HO2.out hb') (fun _ hk => hk.1)); have BK := Qz.mk (Qi BK2.out hb'); have HB := Qz.mk (Qq HB2.out hb'); clear hb' HB1 HB2 BK1 BK2 HO1 HO2 BN BN2 hcz hfz) | ((with_reducible refine gate_builtin (b := .append) (xs := #[.tmp 44, .tmp 46]) rfl ?_); at_builtin; refine Kd.R_append (Kd.int .i64) (w0 := w) w.heap.size rfl (.tmp 44) (.tmp 46) 33 2 (.int .i64 0) 8 rfl Try.underlying33 info2 rfl (by decide) (by omega) u5 out ((m : Int) + 1) [.int .i64 ((m : Int) + 1)] (fun k_ => k_ ≠ w.heap.size) (fun _ => False) rfl (by first | (go_simp; done) | (go_simp; rfl)) ?aP (fun _ hk => hk.elim) ?aF ?aO ?aB ?aS ?aL ?_; (case aP => exact rfl); (case aF => exact (fun k_ hk => by have := Ql BK.out; simp at hk; omega)); (case aO => exact HO.out); (case aB => exact HB.out); (case aS => exact Qp HB.out); (case aL => have := HLn.out; have := HL.out; omega); intro v1 w19 ho2 hb2 hg2 _; have BK3 := Qz.mk (blk_grown BK.out hg2 (fun e => HO.out.1 _ e.symm rfl)); have HO3 := Qz.mk ho2; have HB3 := Qz.mk hb2; clear ho2 hb2 hg2))
      go_quiet (fail)
      go_wp2
      go_roundg m.succ
      case measure => have := HG.out; omega
      case rel => exact ⟨m, out, Nat.le_of_lt hlt, by first | rfl | go_num, ⟨Nat.lt_succ_self _⟩, ⟨by have := HLn.out; omega⟩, HA2, ⟨by (with_reducible repeat (first | apply Kd.Qm)); exact HO.out⟩, ⟨by repeat (first | (with_reducible first | exact HB.out | apply Qa) | exact HB.out)⟩, ⟨Qe BK.out _⟩⟩
     have t2 : (X.f1 == a1) = false := by simpa using e2
     clear e2
     have hh : Zichain.hit l0 a1 m = false := by unfold Zichain.hit; rw [← HXq.out, ← HYD.out, t1, t2, HUD.out]; rfl
     have HA2 := Qz.mk (show Zichain.go l0 a1 m (out) = r from by have h2 := HA.out; unfold Zichain.go at h2; rw [hh] at h2; exact h2)
     clear HA hh
     go_wp2_with (first | ((with_reducible refine gate_dst (N := 7) rfl ?_); refine box_event ?hg (N := 7) ?hd (cs := #[.int .i64 0]) (t := 2) ?hr ?_; (case hd => rfl); (case hg => rfl); (case hr => first | (go_simp; done) | (go_simp; rfl)); intro gb hg w16 hbox hb; have HO1 := Qz.mk (Kd.Qy (Kd.Qap HO.out gb (by rw [hg]; exact Nat.le_refl _)) hb); have BK1 := Qz.mk (Qi BK.out hb); have BN := Qz.mk hbox; have HB1 := Qz.mk (Qq HB.out hb); have GE := Qz.mk (show w.heap.size < gb from by rw [hg]; exact Ql BK.out); have HNA := Qz.mk (show (ad.add (m * 8)).block ≠ gb from Nat.ne_of_lt (Nat.lt_of_lt_of_le (World.block_lt_of_cell? _ _ hx0) (by rw [hg]; exact Nat.le_refl _))); have hcz : w16.cell? ⟨gb, 0, none⟩ = some (.int .i64 0) := (Qh hbox 0).trans rfl; have hfz := Qj hbox 0; replace hx0 := (hb.cell (World.block_lt_of_cell? _ _ hx0)).trans hx0; replace hx1 := (hb.cell (World.block_lt_of_cell? _ _ hx1)).trans hx1; clear HO BK HB hb hbox hg) | (go_at_call 88; have BN2 := Qz.mk (show (w16.setCell ⟨gb, 0, none⟩ (.int .i64 ((m : Int) + 1))).heap[gb]? = some (.cells #[.int .i64 ((m : Int) + 1)] 2 (0, 0)) from by simpa using blk_set BN.out 0 (.int .i64 ((m : Int) + 1))); have BK2 := Qz.mk (blk_far BK1.out (p := ⟨gb, 0, none⟩) (Nat.ne_of_lt GE.out) (.int .i64 ((m : Int) + 1))); have HB2 := Qz.mk (Qd (j := 0) (v := .int .i64 ((m : Int) + 1)) HB1.out (Nat.le_of_lt GE.out)); have HO2 := Qz.mk (Kd.Qx (p := ⟨gb, 0, none⟩) HO1.out (fun _ hk => hk.2) (.int .i64 ((m : Int) + 1))); have NX0 := Qz.mk ((World.cell?_of_block (Below.heap_setCell w16 ⟨gb, 0, none⟩ (.int .i64 ((m : Int) + 1)) _ HNA.out)).trans hx0); have NX1 := Qz.mk ((World.cell?_of_block (a := ⟨(ad.add (m * 8)).block, (ad.add (m * 8)).off + 1, none⟩) (Below.heap_setCell w16 ⟨gb, 0, none⟩ (.int .i64 ((m : Int) + 1)) _ HNA.out)).trans hx1); clear hx0 hx1; refine (ZcContainsFunc_impl_Rec.calls 89 #[.pointer (some ⟨w.heap.size, 0, none⟩), .pointer (some ⟨gb, 0, none⟩)] (Zichain.p a1 ((m : Int) + 1)) A1 c1 yd _ (Kd.Qac HRd.out HB2.out) (fun W x _ hb2 => Zichain.p_calls x a1 _ w.heap.size gb W (Nat.lt_of_lt_of_le (Ql BK2.out) hb2.size) (Nat.lt_of_lt_of_le (Ql BN2.out) hb2.size) ((Qh (Qi BK2.out hb2) 0).trans rfl) ((Qh (Qi BN2.out hb2) 0).trans rfl)) (enters_of Try.func89 (by kernel_rfl) rfl)).mono ?_; rintro e w17 ⟨rfl, hb'⟩; rw [HUD.out]; have hx0 := (hb'.cell (World.block_lt_of_cell? _ _ NX0.out)).trans NX0.out; have hx1 := (hb'.cell (World.block_lt_of_cell? _ _ NX1.out)).trans NX1.out; have z2 : w17.cell? ⟨gb, 0, none⟩ = some (.int .i64 ((m : Int) + 1)) := (Qh (Qi BN2.out hb') 0).trans rfl; have z3 : w17.cell? ⟨w.heap.size, 0, none⟩ = some (.int .i64 a1) := (Qh (Qi BK2.out hb') 0).trans rfl; have HO := Qz.mk (Kd.Qw (Kd.Qy HO2.out hb') (fun _ hk => hk.1)); have BK := Qz.mk (Qi BK2.out hb'); have HB := Qz.mk (Qq HB2.out hb'); clear hb' HB1 HB2 BK1 BK2 HO1 HO2 BN BN2 hcz hfz) | ((with_reducible refine gate_builtin (b := .append) (xs := #[.tmp 44, .tmp 46]) rfl ?_); at_builtin; refine Kd.R_append (Kd.int .i64) (w0 := w) w.heap.size rfl (.tmp 44) (.tmp 46) 33 2 (.int .i64 0) 8 rfl Try.underlying33 info2 rfl (by decide) (by omega) u5 out ((m : Int) + 1) [.int .i64 ((m : Int) + 1)] (fun k_ => k_ ≠ w.heap.size) (fun _ => False) rfl (by first | (go_simp; done) | (go_simp; rfl)) ?aP (fun _ hk => hk.elim) ?aF ?aO ?aB ?aS ?aL ?_; (case aP => exact rfl); (case aF => exact (fun k_ hk => by have := Ql BK.out; simp at hk; omega)); (case aO => exact HO.out); (case aB => exact HB.out); (case aS => exact Qp HB.out); (case aL => have := HLn.out; have := HL.out; omega); intro v1 w19 ho2 hb2 hg2 _; have BK3 := Qz.mk (blk_grown BK.out hg2 (fun e => HO.out.1 _ e.symm rfl)); have HO3 := Qz.mk ho2; have HB3 := Qz.mk hb2; clear ho2 hb2 hg2))
     go_quiet (fail)
     go_wp2
     go_roundg m.succ
     case measure => have := HG.out; omega
     case rel => exact ⟨m, out, Nat.le_of_lt hlt, by first | rfl | go_num, ⟨Nat.lt_succ_self _⟩, ⟨by have := HLn.out; omega⟩, HA2, ⟨by (with_reducible repeat (first | apply Kd.Qm)); exact HO.out⟩, ⟨by repeat (first | (with_reducible first | exact HB.out | apply Qa) | exact HB.out)⟩, ⟨Qe BK.out _⟩⟩
 rw [if_neg hl] at h
 cases h
end Go.Proofs.Ythagppmaofcllaa.P
