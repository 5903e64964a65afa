import Derived.Test.YthagppmaofcllaaP0
import Derived.Test.YthagppmaofcllaaPCbc0
import Derived.Test.YthagppmaofcllaaPCbc1
import Derived.Test.YthagppmaofcllaaPCbdh0
import Derived.Test.YthagppmaofcllaaPDm0
import Derived.Test.YthagppmaofcllaaPDm1
import Derived.Test.YthagppmaofcllaaWRepsOne
import Derived.Test.YthagppmaofcllaaLv
import Derived.Test.YthagppmaofcllaaLv
import Derived.Test.YthagppmaofcllaaLv
import Derived.Test.YthagppmaofcllaaLv
import Derived.Test.YthagppmaofcllaaLv
namespace Go.Proofs.Ythagppmaofcllaa.P
open Go.RowKit Go.Proofs.YthagppmaofcllaaW.PrintWords Go.Proofs.YthagppmaofcllaaW.PrintLast Go.Proofs.YthagppmaofcllaaW.PrintMore
attribute [local go_sem] max2_int min2_int max_two min_two max_three min_three max_four min_four   -- for this text's walks alone
set_option linter.unusedVariables false
set_option linter.unusedSimpArgs false
set_option maxHeartbeats 8000000 in
set_option maxRecDepth 100000 in
theorem ZlszRecS.calls (A0 : Option Addr) (c0 : Nat) (l0 : List (S78)) (a1 : Int) (r : Int) (w : World) (hr0 : Kd.C k78 w A0 l0.length l0) (hc0 : l0.length ≤ c0) (h : ZlszRecS.f l0 a1 = some r) :
 Calls Try.prog 16 #[.slice A0 l0.length c0, .int .i64 a1] w fun e w' => e = .returned (.int .i64 r) ∧ Drawn0 w w' := by
 have HR0 := Qz.mk hr0
 have HC0 := Qz.mk hc0
 clear hr0 hc0
 have H : (if (wrap64 (a1 - (l0.length : Int))) < 0 then (some (-1)) else (some (wrap64 (a1 - (l0.length : Int))))) = some r := h
 clear h
 by_cases c3 : (wrap64 (a1 - (l0.length : Int))) < 0
 ·rw [if_pos c3] at H
  have c3b0 : decide ((wrap64 (a1 - (l0.length : Int))) < 0) = true := decide_eq_true c3
  clear c3
  obtain rfl := Option.some.inj H
  go_enter Try.func16, Try.ntmps16
  go_wp2
  go_ret
  exact ⟨by first | rfl | (simp; done) | (simp [*]; done), by repeat (first | exact Drawn0.refl _ | apply Drawn0.step)⟩
 rw [if_neg c3] at H
 have c3b0 : decide ((wrap64 (a1 - (l0.length : Int))) < 0) = false := decide_eq_false c3
 clear c3
 obtain rfl := Option.some.inj H
 go_enter Try.func16, Try.ntmps16
 go_wp2
 go_ret
 exact ⟨by first | rfl | (simp; done) | (simp [*]; done), by repeat (first | exact Drawn0.refl _ | apply Drawn0.step)⟩
set_option maxHeartbeats 8000000 in
set_option maxRecDepth 100000 in
theorem ZltoRec.calls (a0_0 : Int) (a0_1 : Int) (a0_2 : Int) (a0_3 : Bool) (a0_4 : Int) (a0_5 : Bool) (a0_6 : Int) (a0_7 : Int) (r1 : Int) (r2 : Int) (r3 : Int) (r4 : Bool) (r5 : Int) (r6 : Bool) (r7 : Int) (r8 : Int) (w : World) (h : ZltoRec.f a0_0 a0_1 a0_2 a0_3 a0_4 a0_5 a0_6 a0_7 = some (r1, r2, r3, r4, r5, r6, r7, r8)) :
 Calls Try.prog 55 #[.agg #[.int .i64 a0_0, .int .i64 a0_1, .int .i64 a0_2, .bool a0_3, .int .i64 a0_4, .bool a0_5, .int .i64 a0_6, .int .i64 a0_7]] w fun e w' => e = .returned (.agg #[.int .i64 r1, .int .i64 r2, .int .i64 r3, .bool r4, .int .i64 r5, .bool r6, .int .i64 r7, .int .i64 r8]) ∧ Below w.heap.size w w' := by
 have hu78 := Try.underlying78
 have hu48 := Try.underlying48
 have HB := Qz.mk (Below.refl w.heap.size w)
 have H : (some (a0_0, a0_1, a0_2, a0_3, a0_4, a0_5, a0_6, a0_7)) = some (r1, r2, r3, r4, r5, r6, r7, r8) := h
 clear h
 simp only [Option.some.injEq, Prod.mk.injEq] at H
 obtain ⟨rfl, rfl, rfl, rfl, rfl, rfl, rfl, rfl⟩ := H
 go_enter Try.func55, Try.ntmps55
 go_wp2_with (first | ((with_reducible refine gate_dst (N := 1) rfl ?_); refine box_event ?hg (N := 1) ?hd (cs := #[.int .i64 a0_0, .int .i64 a0_1, .int .i64 a0_2, .bool a0_3, .int .i64 a0_4, .bool a0_5, .int .i64 a0_6, .int .i64 a0_7]) (t := 78) ?hr ?_; (case hd => rfl); (case hg => rfl); (case hr => first | (go_simp; done) | (go_simp; rfl)); intro gb11 hg w2 hbox hb; have n0_ := Qz.mk (Qq (by repeat (first | (with_reducible first | exact HB.out | apply Qc | apply Qa | apply Qb) | exact HB.out)) hb); have n1_ := Qz.mk (hbox); have n2_ := Qz.mk ((by rw [hg]; exact (Qp (by repeat (first | (with_reducible first | exact HB.out | apply Qc | apply Qa | apply Qb) | exact HB.out))) : w.heap.size ≤ gb11)); have n3_ := n2_; clear HB; have HB := n0_; have BK11 := n1_; have GW11 := n2_; have GE11 := n3_; clear n0_ n1_ n2_ n3_; clear hb hbox hg) | ((with_reducible refine gate_dst (N := 2) rfl ?_); refine box_event ?hg (N := 2) ?hd (cs := #[.int .i64 0, .int .i64 0, .int .i64 0, .bool false, .int .i64 0, .bool false, .int .i64 0, .int .i64 0]) (t := 48) ?hr ?_; (case hd => rfl); (case hg => rfl); (case hr => first | (go_simp; done) | (go_simp; rfl)); intro gb12 hg w3 hbox hb; have n0_ := Qz.mk (Qi (g := gb11) (o := .cells #[.int .i64 a0_0, .int .i64 a0_1, .int .i64 a0_2, .bool a0_3, .int .i64 a0_4, .bool a0_5, .int .i64 a0_6, .int .i64 a0_7] 78 (0, 0)) (by (with_reducible repeat (first | refine Qe ?_ _ | refine Qg ?_ | refine Qf ?_ _)); exact BK11.out) hb); have n1_ := Qz.mk (Qq (by repeat (first | (with_reducible first | exact HB.out | apply Qc | apply Qa | apply Qb | refine Qd ?_ GE11.out) | exact HB.out)) hb); have n2_ := Qz.mk (hbox); have n3_ := Qz.mk ((by rw [hg]; exact (Qp (by repeat (first | (with_reducible first | exact HB.out | apply Qc | apply Qa | apply Qb | refine Qd ?_ GE11.out) | exact HB.out))) : w.heap.size ≤ gb12)); have n4_ := n3_; have n5_ := Qz.mk ((by rw [hg]; exact Nat.ne_of_lt (Ql (g := gb11) (o := .cells #[.int .i64 a0_0, .int .i64 a0_1, .int .i64 a0_2, .bool a0_3, .int .i64 a0_4, .bool a0_5, .int .i64 a0_6, .int .i64 a0_7] 78 (0, 0)) (by (with_reducible repeat (first | refine Qe ?_ _ | refine Qg ?_ | refine Qf ?_ _)); exact BK11.out)) : gb11 ≠ gb12)); have n6_ := Qz.mk ((by rw [hg]; exact Nat.ne_of_gt (Ql (g := gb11) (o := .cells #[.int .i64 a0_0, .int .i64 a0_1, .int .i64 a0_2, .bool a0_3, .int .i64 a0_4, .bool a0_5, .int .i64 a0_6, .int .i64 a0_7] 78 (0, 0)) (by (with_reducible repeat (first | refine Qe ?_ _ | refine Qg ?_ | refine Qf ?_ _)); exact BK11.out)) : gb12 ≠ gb11)); clear BK11; clear HB; have BK11 := n0_; have HB := n1_; have BK12 := n2_; have GW12 := n3_; have GE12 := n4_; have NB405_406 := n5_; have NB406_405 := n6_; clear n0_ n1_ n2_ n3_ n4_ n5_ n6_; clear hb hbox hg) | ((with_reducible refine gate_dst (N := 3) rfl ?_); refine box_event ?hg (N := 3) ?hd (cs := #[.int .i64 0, .int .i64 0, .int .i64 0, .bool false, .int .i64 0, .bool false, .int .i64 0, .int .i64 0]) (t := 48) ?hr ?_; (case hd => rfl); (case hg => rfl); (case hr => first | (go_simp; done) | (go_simp; rfl)); intro gb13 hg w4 hbox hb; have n0_ := Qz.mk (Qi (g := gb11) (o := .cells #[.int .i64 a0_0, .int .i64 a0_1, .int .i64 a0_2, .bool a0_3, .int .i64 a0_4, .bool a0_5, .int .i64 a0_6, .int .i64 a0_7] 78 (0, 0)) (by (with_reducible repeat (first | refine Qe ?_ _ | refine Qg ?_ | refine Qf ?_ _)); exact BK11.out) hb); have n1_ := Qz.mk (Qi (g := gb12) (o := .cells #[.int .i64 0, .int .i64 0, .int .i64 0, .bool false, .int .i64 0, .bool false, .int .i64 0, .int .i64 0] 48 (0, 0)) (by (with_reducible repeat (first | refine Qe ?_ _ | refine Qg ?_ | refine Qf ?_ _)); exact BK12.out) hb); have n2_ := Qz.mk (Qq (by repeat (first | (with_reducible first | exact HB.out | apply Qc | apply Qa | apply Qb | refine Qd ?_ GE11.out | refine Qd ?_ GE12.out) | exact HB.out)) hb); have n3_ := Qz.mk (hbox); have n4_ := Qz.mk ((by rw [hg]; exact (Qp (by repeat (first | (with_reducible first | exact HB.out | apply Qc | apply Qa | apply Qb | refine Qd ?_ GE11.out | refine Qd ?_ GE12.out) | exact HB.out))) : w.heap.size ≤ gb13)); have n5_ := n4_; have n6_ := Qz.mk ((by rw [hg]; exact Nat.ne_of_lt (Ql (g := gb11) (o := .cells #[.int .i64 a0_0, .int .i64 a0_1, .int .i64 a0_2, .bool a0_3, .int .i64 a0_4, .bool a0_5, .int .i64 a0_6, .int .i64 a0_7] 78 (0, 0)) (by (with_reducible repeat (first | refine Qe ?_ _ | refine Qg ?_ | refine Qf ?_ _)); exact BK11.out)) : gb11 ≠ gb13)); have n7_ := Qz.mk ((by rw [hg]; exact Nat.ne_of_gt (Ql (g := gb11) (o := .cells #[.int .i64 a0_0, .int .i64 a0_1, .int .i64 a0_2, .bool a0_3, .int .i64 a0_4, .bool a0_5, .int .i64 a0_6, .int .i64 a0_7] 78 (0, 0)) (by (with_reducible repeat (first | refine Qe ?_ _ | refine Qg ?_ | refine Qf ?_ _)); exact BK11.out)) : gb13 ≠ gb11)); have n8_ := Qz.mk ((by rw [hg]; exact Nat.ne_of_lt (Ql (g := gb12) (o := .cells #[.int .i64 0, .int .i64 0, .int .i64 0, .bool false, .int .i64 0, .bool false, .int .i64 0, .int .i64 0] 48 (0, 0)) (by (with_reducible repeat (first | refine Qe ?_ _ | refine Qg ?_ | refine Qf ?_ _)); exact BK12.out)) : gb12 ≠ gb13)); have n9_ := Qz.mk ((by rw [hg]; exact Nat.ne_of_gt (Ql (g := gb12) (o := .cells #[.int .i64 0, .int .i64 0, .int .i64 0, .bool false, .int .i64 0, .bool false, .int .i64 0, .int .i64 0] 48 (0, 0)) (by (with_reducible repeat (first | refine Qe ?_ _ | refine Qg ?_ | refine Qf ?_ _)); exact BK12.out)) : gb13 ≠ gb12)); clear BK11; clear BK12; clear HB; have BK11 := n0_; have BK12 := n1_; have HB := n2_; have BK13 := n3_; have GW13 := n4_; have GE13 := n5_; have NB405_407 := n6_; have NB407_405 := n7_; have NB406_407 := n8_; have NB407_406 := n9_; clear n0_ n1_ n2_ n3_ n4_ n5_ n6_ n7_ n8_ n9_; clear hb hbox hg; have hnb5 := NB405_406.out; have hnc5 := NB406_405.out; have hnb6 := NB405_407.out; have hnc6 := NB407_405.out; obtain ⟨z7_0, z7_1, z7_2, z7_3, z7_4, z7_5, z7_6, z7_7, j7_0, j7_1, j7_2, j7_3, j7_4, j7_5, j7_6, j7_7⟩ := Lv.blks8 BK11.out; have hnb8 := NB407_406.out; have hnc8 := NB406_407.out; obtain ⟨z9_0, z9_1, z9_2, z9_3, z9_4, z9_5, z9_6, z9_7, j9_0, j9_1, j9_2, j9_3, j9_4, j9_5, j9_6, j9_7⟩ := Lv.blks8 BK13.out; obtain ⟨z10_0, z10_1, z10_2, z10_3, z10_4, z10_5, z10_6, z10_7, j10_0, j10_1, j10_2, j10_3, j10_4, j10_5, j10_6, j10_7⟩ := Lv.blks8 BK12.out))
 refine bodyPost_ret (results_cell_row rfl _ _ gb12 48 #[.int .i64 a0_0, .int .i64 a0_1, .int .i64 a0_2, .bool a0_3, .int .i64 a0_4, .bool a0_5, .int .i64 a0_6, .int .i64 a0_7] (0, 0) _ rfl (by (with_reducible repeat (first | refine Qe ?_ _ | refine Qg ?_ | refine Qf ?_ _)); refine Qk (cs := #[.int .i64 a0_0, .int .i64 a0_1, .int .i64 a0_2, .bool a0_3, .int .i64 a0_4, .bool a0_5, .int .i64 a0_6, .int .i64 0]) ?_ 7 _ rfl; (with_reducible repeat (first | refine Qe ?_ _ | refine Qg ?_ | refine Qf ?_ _)); refine Qk (cs := #[.int .i64 a0_0, .int .i64 a0_1, .int .i64 a0_2, .bool a0_3, .int .i64 a0_4, .bool a0_5, .int .i64 0, .int .i64 0]) ?_ 6 _ rfl; (with_reducible repeat (first | refine Qe ?_ _ | refine Qg ?_ | refine Qf ?_ _)); refine Qk (cs := #[.int .i64 a0_0, .int .i64 a0_1, .int .i64 a0_2, .bool a0_3, .int .i64 a0_4, .bool false, .int .i64 0, .int .i64 0]) ?_ 5 _ rfl; (with_reducible repeat (first | refine Qe ?_ _ | refine Qg ?_ | refine Qf ?_ _)); refine Qk (cs := #[.int .i64 a0_0, .int .i64 a0_1, .int .i64 a0_2, .bool a0_3, .int .i64 0, .bool false, .int .i64 0, .int .i64 0]) ?_ 4 _ rfl; (with_reducible repeat (first | refine Qe ?_ _ | refine Qg ?_ | refine Qf ?_ _)); refine Qk (cs := #[.int .i64 a0_0, .int .i64 a0_1, .int .i64 a0_2, .bool false, .int .i64 0, .bool false, .int .i64 0, .int .i64 0]) ?_ 3 _ rfl; (with_reducible repeat (first | refine Qe ?_ _ | refine Qg ?_ | refine Qf ?_ _)); refine Qk (cs := #[.int .i64 a0_0, .int .i64 a0_1, .int .i64 0, .bool false, .int .i64 0, .bool false, .int .i64 0, .int .i64 0]) ?_ 2 _ rfl; (with_reducible repeat (first | refine Qe ?_ _ | refine Qg ?_ | refine Qf ?_ _)); refine Qk (cs := #[.int .i64 a0_0, .int .i64 0, .int .i64 0, .bool false, .int .i64 0, .bool false, .int .i64 0, .int .i64 0]) ?_ 1 _ rfl; (with_reducible repeat (first | refine Qe ?_ _ | refine Qg ?_ | refine Qf ?_ _)); refine Qk (cs := #[.int .i64 0, .int .i64 0, .int .i64 0, .bool false, .int .i64 0, .bool false, .int .i64 0, .int .i64 0]) ?_ 0 _ rfl; (with_reducible repeat (first | refine Qe ?_ _ | refine Qg ?_ | refine Qf ?_ _)); refine blk_far ?_ NB406_407.out _; (with_reducible repeat (first | refine Qe ?_ _ | refine Qg ?_ | refine Qf ?_ _)); refine blk_far ?_ NB406_407.out _; (with_reducible repeat (first | refine Qe ?_ _ | refine Qg ?_ | refine Qf ?_ _)); refine blk_far ?_ NB406_407.out _; (with_reducible repeat (first | refine Qe ?_ _ | refine Qg ?_ | refine Qf ?_ _)); refine blk_far ?_ NB406_407.out _; (with_reducible repeat (first | refine Qe ?_ _ | refine Qg ?_ | refine Qf ?_ _)); refine blk_far ?_ NB406_407.out _; (with_reducible repeat (first | refine Qe ?_ _ | refine Qg ?_ | refine Qf ?_ _)); refine blk_far ?_ NB406_407.out _; (with_reducible repeat (first | refine Qe ?_ _ | refine Qg ?_ | refine Qf ?_ _)); refine blk_far ?_ NB406_407.out _; (with_reducible repeat (first | refine Qe ?_ _ | refine Qg ?_ | refine Qf ?_ _)); refine blk_far ?_ NB406_407.out _; (with_reducible repeat (first | refine Qe ?_ _ | refine Qg ?_ | refine Qf ?_ _)); exact BK12.out) Try.underlying48 rfl (by kernel_rfl)) rfl ?_
 exact ⟨by first | rfl | (simp [Qv, Qu] <;> rfl) | (simp [*, Qv, Qu] <;> rfl), by repeat (first | (with_reducible first | exact HB.out | apply Qc | apply Qa | apply Qb | refine Qd ?_ GE11.out | refine Qd ?_ GE12.out | refine Qd ?_ GE13.out) | exact HB.out)⟩
set_option maxHeartbeats 8000000 in
set_option maxRecDepth 100000 in
theorem ZltoRecS.calls (k : Nat) (A0 : Option Addr) (c0 : Nat) (l0 : List (S78)) (r : List (S48)) (w : World) (hr0 : Kd.C k78 w A0 l0.length l0) (hc0 : l0.length ≤ c0) (h : ZltoRecS.f k l0 = some r) :
 Calls Try.prog 18 #[.slice A0 l0.length c0] w fun e w' => ∃ v0_ : Value, e = .returned (v0_) ∧ Kd.R k48 48 w' w.heap.size (fun _ => True) v0_ r ∧ Below w.heap.size w w' := by
 have hu78 := Try.underlying78
 have hu48 := Try.underlying48
 have HR0 := Qz.mk hr0
 have HC0 := Qz.mk hc0
 clear hr0 hc0
 have HB := Qz.mk (Below.refl w.heap.size w)
 have H : (if 0 ≤ (l0.length : Int) then (if ((l0.length : Int) : Int).toNat ≤ 4398046511104 then (ZltoRecS.l0 k l0 (List.replicate ((l0.length : Int) : Int).toNat z48) 0) else (none)) else (none)) = some r := h
 clear h
 by_cases c2 : 0 ≤ (l0.length : Int)
 ·rw [if_pos c2] at H
  have c2b0 := eq_true c2
  have c2b1 : decide (0 ≤ (l0.length : Int)) = true := decide_eq_true c2
  clear c2
  by_cases c3 : ((l0.length : Int) : Int).toNat ≤ 4398046511104
  ·rw [if_pos c3] at H
   have c3b0 := eq_true c3
   have c3b1 : decide (((l0.length : Int) : Int).toNat ≤ 4398046511104) = true := decide_eq_true c3
   clear c3
   obtain ⟨y15, hy15⟩ : ∃ y_ : List (S48), y_ = (List.replicate ((l0.length : Int) : Int).toNat z48) := ⟨_, rfl⟩
   replace H : (ZltoRecS.l0 k l0 y15 0) = some r := by first | (rw [hy15]; with_reducible exact H) | (have H2_ := (Option.bind_some _ _).symm.trans H; rw [hy15]; with_reducible exact H2_) | (have H2_ := (Option.bind_some _ _).symm.trans H; with_reducible exact H2_) | with_reducible exact H | (rw [hy15]; exact H) | exact H
   have Ny15 := Qz.mk hy15
   clear hy15
   have H' := Qz.mk H
   clear H
   go_enter Try.func18, Try.ntmps18
   go_wp2_with (first | ((with_reducible refine gate_dst (N := 7) rfl ?_); refine Kd.R_make k48 _ 48 rfl (N := 7) rfl 37 _ _ rfl (l0.length : Int) rfl rfl Try.underlying37 (.agg #[(.int .i64 0), (.int .i64 0), (.int .i64 0), (.bool false), (.int .i64 0), (.bool false), (.int .i64 0), (.int .i64 0)]) 64 info48 rfl (by decide) (by omega) z48 (ok := fun _ => True) (okp := fun _ => True) (k48_mkM _ _ _ z48 ) (fun _ hk => hk) trivial (of_decide_eq_true (by first | (with_reducible assumption) | assumption)) (Nat.le_trans (Nat.mul_le_mul_right _ (of_decide_eq_true (by first | (with_reducible assumption) | assumption) : (l0.length : Int).toNat ≤ 4398046511104)) (by omega)) (Below.refl _ _) (Nat.le_refl _) ?_; intro v28 w4 ho5 hb hg_ hnew_; clear hg_ hnew_; (first | rw [← Ny15.out] at ho5 | (simp only [Int.reduceToNat] at ho5; rw [← Ny15.out] at ho5)); have n0_ := Qz.mk (Kd.Qan ho5 (Qp (by repeat (first | (with_reducible first | exact HB.out | apply Qc | apply Qa | apply Qb) | exact HB.out)))); have n1_ := Qz.mk (Qq (by repeat (first | (with_reducible first | exact HB.out | apply Qc | apply Qa | apply Qb) | exact HB.out)) hb); clear HB; have HO29 := n0_; have HB := n1_; clear n0_ n1_; clear hb ho5))
   go_loopg [4] k (fun kq v4 w' => ∃ (x3_1 : List (S48)) (x4_1 : Int), v4 = .int .i64 x4_1 ∧ Qz (ZltoRecS.l0 kq l0 x3_1 x4_1 = some r) ∧ Qz (kq ≤ k) ∧ Qz (Kd.R k48 48 w' w.heap.size (fun _ => True) v28 x3_1) ∧ Qz (Below w.heap.size w w'))
   case atStart => exact ⟨(y15), (0), (by first | rfl | (simp; done) | (simp [*]; done)), H', ⟨Nat.le_refl _⟩, ⟨by (with_reducible repeat (first | apply Kd.Qn | apply Kd.Qm | apply Kd.Qo)); exact HO29.out⟩, ⟨by repeat (first | (with_reducible first | exact HB.out | apply Qc | apply Qa | apply Qb) | exact HB.out)⟩⟩
   case round =>
    clear H'
    try clear c1
    try clear c2
    try clear c2b0
    try clear c2b1
    try clear p2
    try clear c3
    try clear c3b0
    try clear c3b1
    obtain ⟨x3_1, x4_1, rfl, HA, HK1, HO_3, HB⟩ := hrel
    cases gk with
    | zero => exact absurd HA.out (by simp [ZltoRecS.l0])
    | succ k1 =>
     have H := HA.out
     clear HA
     simp only [ZltoRecS.l0] at H
     by_cases c6 : x4_1 < (l0.length : Int)
     ·rw [if_pos c6] at H
      have c6b0 : decide (x4_1 < (l0.length : Int)) = true := decide_eq_true c6
      clear c6
      by_cases c7 : 0 ≤ x4_1
      ·rw [if_pos c7] at H
       have c7b0 : decide (0 ≤ x4_1) = true := decide_eq_true c7
       clear c7
       replace H := Qj9 H
       obtain ⟨⟨t17, t19, t22, t23, t24, t25, t26, t27⟩, A80, H⟩ := H
       replace H : (if x4_1 < (x3_1.length : Int) then (ZltoRecS.l0 k1 l0 (x3_1.set (x4_1 : Int).toNat (⟨t17, t19, t22, t23, t24, t25, t26, t27⟩ : S48)) (wrap64 (x4_1 + 1))) else (none)) = some r := H
       have A8 := Qz.mk A80
       clear A80
       by_cases c9 : x4_1 < (x3_1.length : Int)
       ·rw [if_pos c9] at H
        have c9b0 : decide (x4_1 < (x3_1.length : Int)) = true := decide_eq_true c9
        clear c9
        obtain ⟨y16, hy16⟩ : ∃ y_ : List (S48), y_ = (x3_1.set (x4_1 : Int).toNat (⟨t17, t19, t22, t23, t24, t25, t26, t27⟩ : S48)) := ⟨_, rfl⟩
        replace H : (ZltoRecS.l0 k1 l0 y16 (wrap64 (x4_1 + 1))) = some r := by first | (rw [hy16]; with_reducible exact H) | (have H2_ := (Option.bind_some _ _).symm.trans H; rw [hy16]; with_reducible exact H2_) | (have H2_ := (Option.bind_some _ _).symm.trans H; with_reducible exact H2_) | with_reducible exact H | (rw [hy16]; exact H) | exact H
        have Ny16 := Qz.mk hy16
        clear hy16
        have H' := Qz.mk H
        clear H
        have p411 : 0 ≤ (x4_1 : Int) := of_decide_eq_true (by first | (with_reducible assumption) | assumption)
        have q14 : x4_1 < (l0.length : Int) := of_decide_eq_true (by first | (with_reducible assumption) | assumption)
        obtain ⟨ad14, e411, hx14_0, hx14_1, hx14_2, hx14_3, hx14_4, hx14_5, hx14_6, hx14_7⟩ := at_T78 (Kd.Qac HR0.out HB.out) x4_1 p411 q14
        cases e411
        replace p411 := eq_true p411
        replace q14 := eq_true q14
        go_wp2_with (first | ((with_reducible refine gate_callee (f := 55) rfl ?_); refine Qat (some 20) rfl rfl Try.func55 (by kernel_rfl) rfl #[.agg #[.int .i64 ((rd_T78 l0 x4_1).f0), .int .i64 ((rd_T78 l0 x4_1).f1), .int .i64 ((rd_T78 l0 x4_1).f2), .bool ((rd_T78 l0 x4_1).f3), .int .i64 ((rd_T78 l0 x4_1).f4), .bool ((rd_T78 l0 x4_1).f5), .int .i64 ((rd_T78 l0 x4_1).f6), .int .i64 ((rd_T78 l0 x4_1).f7)]] rfl (by (try simp only [Qj4, Qj5, Qj6]); first | done | rfl | (simp only [Qj7, Qj8]; rfl)) ?_; (with_reducible refine (ZltoRec.calls ((rd_T78 l0 x4_1).f0) ((rd_T78 l0 x4_1).f1) ((rd_T78 l0 x4_1).f2) ((rd_T78 l0 x4_1).f3) ((rd_T78 l0 x4_1).f4) ((rd_T78 l0 x4_1).f5) ((rd_T78 l0 x4_1).f6) ((rd_T78 l0 x4_1).f7) t17 t19 t22 t23 t24 t25 t26 t27 _ A8.out).mono ?_); rintro e w11 ⟨rfl, hb⟩; refine ⟨_, rfl, ?_⟩; have n0_ := Qz.mk (Kd.Qy (by (with_reducible repeat (first | apply Kd.Qn | apply Kd.Qm | apply Kd.Qo)); exact HO_3.out) hb); have n1_ := Qz.mk (Qq (by repeat (first | (with_reducible first | exact HB.out | apply Qc | apply Qa | apply Qb) | exact HB.out)) hb); clear HO_3; clear HB; have HO_3 := n0_; have HB := n1_; clear n0_ n1_; (try clear hb); (try clear hb2); (try clear hk); (try clear hi); have p10 : 0 ≤ (x4_1 : Int) := of_decide_eq_true (by first | (with_reducible assumption) | assumption); have q10 : (x4_1 : Int) < ((x3_1.length : Int) : Int) := of_decide_eq_true (by first | (with_reducible assumption) | assumption); obtain ⟨go10, co10, eo10, gb10, gl10, cl10, HG10⟩ := Kd.R_form HO_3.out (by omega); (first | cases eo10 | (injection eo10 with ea_ en_ ec_; (first | subst ea_ | (injection ea_ with ea_; subst ea_)); subst ec_; clear en_)); have GB10 := Qz.mk gb10; have GG10 := Qz.mk HG10; clear gb10 gl10 HG10; obtain ⟨ce10, hcl10, hM10, hcc10, hfr10⟩ := Kd.R_elem HO_3.out z48 (x4_1 : Int) p10 q10; obtain rfl := k48_openM hM10; have hx10_0 : w11.cell? ⟨go10, (x4_1 : Int).toNat * 8, none⟩ = some (.int .i64 ((rd_T48 x3_1 x4_1).f0)) := hcc10 0 _ rfl; have hx10_1 : w11.cell? ⟨go10, (x4_1 : Int).toNat * 8 + 1, none⟩ = some (.int .i64 ((rd_T48 x3_1 x4_1).f1)) := hcc10 1 _ rfl; have hx10_2 : w11.cell? ⟨go10, (x4_1 : Int).toNat * 8 + 2, none⟩ = some (.int .i64 ((rd_T48 x3_1 x4_1).f2)) := hcc10 2 _ rfl; have hx10_3 : w11.cell? ⟨go10, (x4_1 : Int).toNat * 8 + 3, none⟩ = some (.bool ((rd_T48 x3_1 x4_1).f3)) := hcc10 3 _ rfl; have hx10_4 : w11.cell? ⟨go10, (x4_1 : Int).toNat * 8 + 4, none⟩ = some (.int .i64 ((rd_T48 x3_1 x4_1).f4)) := hcc10 4 _ rfl; have hx10_5 : w11.cell? ⟨go10, (x4_1 : Int).toNat * 8 + 5, none⟩ = some (.bool ((rd_T48 x3_1 x4_1).f5)) := hcc10 5 _ rfl; have hx10_6 : w11.cell? ⟨go10, (x4_1 : Int).toNat * 8 + 6, none⟩ = some (.int .i64 ((rd_T48 x3_1 x4_1).f6)) := hcc10 6 _ rfl; have hx10_7 : w11.cell? ⟨go10, (x4_1 : Int).toNat * 8 + 7, none⟩ = some (.int .i64 ((rd_T48 x3_1 x4_1).f7)) := hcc10 7 _ rfl; have hf10_0 : w11.frozen? ⟨go10, (x4_1 : Int).toNat * 8, none⟩ = false := hfr10 0; have hf10_1 : w11.frozen? ⟨go10, (x4_1 : Int).toNat * 8 + 1, none⟩ = false := hfr10 1; have hf10_2 : w11.frozen? ⟨go10, (x4_1 : Int).toNat * 8 + 2, none⟩ = false := hfr10 2; have hf10_3 : w11.frozen? ⟨go10, (x4_1 : Int).toNat * 8 + 3, none⟩ = false := hfr10 3; have hf10_4 : w11.frozen? ⟨go10, (x4_1 : Int).toNat * 8 + 4, none⟩ = false := hfr10 4; have hf10_5 : w11.frozen? ⟨go10, (x4_1 : Int).toNat * 8 + 5, none⟩ = false := hfr10 5; have hf10_6 : w11.frozen? ⟨go10, (x4_1 : Int).toNat * 8 + 6, none⟩ = false := hfr10 6; have hf10_7 : w11.frozen? ⟨go10, (x4_1 : Int).toNat * 8 + 7, none⟩ = false := hfr10 7; clear hcl10 hcc10 hfr10; (try clear hM10); replace p10 := eq_true p10; replace q10 := eq_true q10; have HX12 := Qz.mk (show Kd.R k48 48 w11 w.heap.size (fun _ => True) (.slice (some ⟨go10, 0, none⟩) x3_1.length co10) x3_1 from (by (with_reducible repeat (first | apply Kd.Qn | apply Kd.Qm | apply Kd.Qo)); exact HO_3.out)); obtain ⟨ce12, hcl12, hM12, hcc12, hfr12⟩ := Kd.R_elem HX12.out z48 (x4_1 : Int) (of_decide_eq_true (by first | (with_reducible assumption) | assumption)) (by have h_ : (x4_1 : Int) < ((x3_1.length : Int) : Int) := of_decide_eq_true (by first | (with_reducible assumption) | assumption); first | exact h_ | (have e_ := (Kd.Qaj HO_3.out).1; omega) | simpa using h_); obtain rfl := k48_openM hM12; have HP12 := Kd.R_seg HX12.out (x4_1 : Int) (of_decide_eq_true (by first | (with_reducible assumption) | assumption)) (by have h_ : (x4_1 : Int) < ((x3_1.length : Int) : Int) := of_decide_eq_true (by first | (with_reducible assumption) | assumption); first | exact h_ | (have e_ := (Kd.Qaj HO_3.out).1; omega) | simpa using h_) (seg := [.int .i64 t17, .int .i64 t19, .int .i64 t22, .bool t23, .int .i64 t24, .bool t25, .int .i64 t26, .int .i64 t27]) (j := 0) hcl12 hcc12 (show 8 ≤ 8 from by decide) (x' := (⟨t17, t19, t22, t23, t24, t25, t26, t27⟩ : S48)) (k48_mkM _ _ _ (⟨t17, t19, t22, t23, t24, t25, t26, t27⟩ : S48) ) (fun _ hk => hk); have hx12_0 := hcc12 0 _ rfl; (try simp only [show (k48).sz = 8 from rfl, Nat.mul_one, Nat.add_zero] at hx12_0); have hf12_0 := hfr12 0; (try simp only [show (k48).sz = 8 from rfl, Nat.mul_one, Nat.add_zero] at hf12_0); have hx12_1 := hcc12 1 _ rfl; (try simp only [show (k48).sz = 8 from rfl, Nat.mul_one, Nat.add_zero] at hx12_1); have hf12_1 := hfr12 1; (try simp only [show (k48).sz = 8 from rfl, Nat.mul_one, Nat.add_zero] at hf12_1); have hx12_2 := hcc12 2 _ rfl; (try simp only [show (k48).sz = 8 from rfl, Nat.mul_one, Nat.add_zero] at hx12_2); have hf12_2 := hfr12 2; (try simp only [show (k48).sz = 8 from rfl, Nat.mul_one, Nat.add_zero] at hf12_2); have hx12_3 := hcc12 3 _ rfl; (try simp only [show (k48).sz = 8 from rfl, Nat.mul_one, Nat.add_zero] at hx12_3); have hf12_3 := hfr12 3; (try simp only [show (k48).sz = 8 from rfl, Nat.mul_one, Nat.add_zero] at hf12_3); have hx12_4 := hcc12 4 _ rfl; (try simp only [show (k48).sz = 8 from rfl, Nat.mul_one, Nat.add_zero] at hx12_4); have hf12_4 := hfr12 4; (try simp only [show (k48).sz = 8 from rfl, Nat.mul_one, Nat.add_zero] at hf12_4); have hx12_5 := hcc12 5 _ rfl; (try simp only [show (k48).sz = 8 from rfl, Nat.mul_one, Nat.add_zero] at hx12_5); have hf12_5 := hfr12 5; (try simp only [show (k48).sz = 8 from rfl, Nat.mul_one, Nat.add_zero] at hf12_5); have hx12_6 := hcc12 6 _ rfl; (try simp only [show (k48).sz = 8 from rfl, Nat.mul_one, Nat.add_zero] at hx12_6); have hf12_6 := hfr12 6; (try simp only [show (k48).sz = 8 from rfl, Nat.mul_one, Nat.add_zero] at hf12_6); have hx12_7 := hcc12 7 _ rfl; (try simp only [show (k48).sz = 8 from rfl, Nat.mul_one, Nat.add_zero] at hx12_7); have hf12_7 := hfr12 7; (try simp only [show (k48).sz = 8 from rfl, Nat.mul_one, Nat.add_zero] at hf12_7); clear hcl12 hcc12 hfr12; (try clear hM12)) | ((with_reducible refine gate_store (t := 48) (p := 21) rfl ?_); refine store_event (t := 48) (p := 21) (v := ?vo_w13) (w1 := ((((((((w11.setCell ⟨go10, (x4_1 : Int).toNat * 8, none⟩ (.int .i64 t17)).setCell ⟨go10, (x4_1 : Int).toNat * 8 + 1, none⟩ (.int .i64 t19)).setCell ⟨go10, (x4_1 : Int).toNat * 8 + 2, none⟩ (.int .i64 t22)).setCell ⟨go10, (x4_1 : Int).toNat * 8 + 3, none⟩ (.bool t23)).setCell ⟨go10, (x4_1 : Int).toNat * 8 + 4, none⟩ (.int .i64 t24)).setCell ⟨go10, (x4_1 : Int).toNat * 8 + 5, none⟩ (.bool t25)).setCell ⟨go10, (x4_1 : Int).toNat * 8 + 6, none⟩ (.int .i64 t26)).setCell ⟨go10, (x4_1 : Int).toNat * 8 + 7, none⟩ (.int .i64 t27))) ?hg ?ho ?hn ?hr ?_; (case ho => rfl); (case hg => rfl); (case hn => rfl); (case hr => first | (go_simp; done) | (go_simp; rfl)); intro w13 hw; have hg : w11.grownBy w13 (some go10) := (by rw [hw]; exact HP12.2); have hp_ : Kd.R k48 48 w13 w.heap.size (fun _ => True) (.slice (some ⟨go10, 0, none⟩) x3_1.length co10) y16 := (by rw [hw, Ny16.out]; exact HP12.1); clear HP12; have n0_ := Qz.mk (hp_); have n1_ := Qz.mk ((by rw [hw]; exact Qd (Qd (Qd (Qd (Qd (Qd (Qd (Qd (HB.out) GB10.out) GB10.out) GB10.out) GB10.out) GB10.out) GB10.out) GB10.out) GB10.out : Below w.heap.size w w13)); clear HO_3; clear HB; have HO_3 := n0_; have HB := n1_; clear n0_ n1_; clear hg hw hp_))
        go_roundg k1
        case measure => have := HK1.out; omega
        case rel => exact ⟨(y16), (wrap64 (x4_1 + 1)), (by first | rfl | (simp; done) | (simp [*]; done)), H', ⟨by have := HK1.out; omega⟩, ⟨by (with_reducible repeat (first | apply Kd.Qn | apply Kd.Qm | apply Kd.Qo)); exact HO_3.out⟩, ⟨by repeat (first | (with_reducible first | exact HB.out | apply Qc | apply Qa | apply Qb) | exact HB.out)⟩⟩
       rw [if_neg c9] at H
       exact absurd H (by simp)
      rw [if_neg c7] at H
      exact absurd H (by simp)
     rw [if_neg c6] at H
     have c6b0 : decide (x4_1 < (l0.length : Int)) = false := decide_eq_false c6
     clear c6
     obtain rfl := Option.some.inj H
     go_wp2
     go_ret
     exact ⟨_, by first | rfl | (simp [Qv, Qu] <;> rfl) | (simp [*, Qv, Qu] <;> rfl), by (with_reducible repeat (first | apply Kd.Qn | apply Kd.Qm | apply Kd.Qo)); exact HO_3.out, by repeat (first | (with_reducible first | exact HB.out | apply Qc | apply Qa | apply Qb) | exact HB.out)⟩
  rw [if_neg c3] at H
  exact absurd H (by simp)
 rw [if_neg c2] at H
 exact absurd H (by simp)
set_option maxHeartbeats 8000000 in
set_option maxRecDepth 100000 in
theorem ZleqInt64S.calls (k : Nat) (A0 : Option Addr) (c0 : Nat) (l0 : List Int) (A1 : Option Addr) (c1 : Nat) (l1 : List Int) (r : Bool) (w : World) (hr0 : Kd.C (Kd.int .i64) w A0 l0.length l0) (hc0 : l0.length ≤ c0) (hr1 : Kd.C (Kd.int .i64) w A1 l1.length l1) (hc1 : l1.length ≤ c1) (h : ZleqInt64S.f k l0 l1 = some r) :
 Calls Try.prog 59 #[.slice A0 l0.length c0, .slice A1 l1.length c1] w fun e w' => e = .returned (.bool r) ∧ Drawn0 w w' := by
 have HR0 := Qz.mk hr0
 have HC0 := Qz.mk hc0
 clear hr0 hc0
 have HR1 := Qz.mk hr1
 have HC1 := Qz.mk hc1
 clear hr1 hc1
 have H : (if (l0.length : Int) = (l1.length : Int) then (ZleqInt64S.l0 k l0 l1 0) else (some false)) = some r := h
 clear h
 by_cases c3 : (l0.length : Int) = (l1.length : Int)
 ·rw [if_pos c3] at H
  have c3b0 : ((l0.length : Int) == (l1.length : Int)) = true := beq_iff_eq.mpr c3
  have c3b1 : ((l0.length : Int) != (l1.length : Int)) = false := bne_eq_false_iff_eq.mpr c3
  have c3b2 : (l0.length == l1.length) = true := by first | simpa using c3 | (simp at c3 ⊢; omega)
  clear c3
  have H' := Qz.mk H
  clear H
  go_enter Try.func59, Try.ntmps59
  go_wp2
  repeat (go_quiet (fail); try go_wp2)
  go_loopg [5] k (fun kq v5 w' => ∃ (x5_1 : Int), v5 = .int .i64 x5_1 ∧ Qz (ZleqInt64S.l0 kq l0 l1 x5_1 = some r) ∧ Qz (kq ≤ k) ∧ Drawn0 w w')
  case atStart => exact ⟨(0), (by first | rfl | (simp; done) | (simp [*]; done)), H', ⟨Nat.le_refl _⟩, by repeat (first | exact Drawn0.refl _ | apply Drawn0.step)⟩
  case round =>
   clear H'
   try clear c1
   try clear p2
   try clear c3
   try clear c3b0
   try clear c3b1
   try clear c3b2
   obtain ⟨x5_1, rfl, HA, HK1, ⟨m1, rfl⟩⟩ := hrel
   cases gk with
   | zero => exact absurd HA.out (by simp [ZleqInt64S.l0])
   | succ k1 =>
    have H := HA.out
    clear HA
    simp only [ZleqInt64S.l0] at H
    by_cases c4 : x5_1 < (l0.length : Int)
    ·rw [if_pos c4] at H
     have c4b0 : decide (x5_1 < (l0.length : Int)) = true := decide_eq_true c4
     clear c4
     by_cases c5 : 0 ≤ x5_1
     ·rw [if_pos c5] at H
      have c5b0 : decide (0 ≤ x5_1) = true := decide_eq_true c5
      clear c5
      by_cases c6 : x5_1 < (l1.length : Int)
      ·rw [if_pos c6] at H
       have c6b0 : decide (x5_1 < (l1.length : Int)) = true := decide_eq_true c6
       clear c6
       by_cases c7 : (rd l0 x5_1) = (rd l1 x5_1)
       ·rw [if_pos c7] at H
        have c7b0 : ((rd l0 x5_1) == (rd l1 x5_1)) = true := beq_iff_eq.mpr c7
        have c7b1 : ((rd l0 x5_1) != (rd l1 x5_1)) = false := bne_eq_false_iff_eq.mpr c7
        clear c7
        have H' := Qz.mk H
        clear H
        have p430 : 0 ≤ (x5_1 : Int) := of_decide_eq_true (by first | (with_reducible assumption) | assumption)
        have q8 : x5_1 < (l0.length : Int) := of_decide_eq_true (by first | (with_reducible assumption) | assumption)
        obtain ⟨ad8, e430, hx8_0⟩ := Kd.at_int HR0.out x5_1 p430 q8
        cases e430
        replace p430 := eq_true p430
        replace q8 := eq_true q8
        have p431 : 0 ≤ (x5_1 : Int) := of_decide_eq_true (by first | (with_reducible assumption) | assumption)
        have q9 : x5_1 < (l1.length : Int) := of_decide_eq_true (by first | (with_reducible assumption) | assumption)
        obtain ⟨ad9, e431, hx9_0⟩ := Kd.at_int HR1.out x5_1 p431 q9
        cases e431
        replace p431 := eq_true p431
        replace q9 := eq_true q9
        go_wp2
        repeat (go_quiet (fail); try go_wp2)
        go_roundg k1
        case measure => have := HK1.out; omega
        case rel => exact ⟨(wrap64 (x5_1 + 1)), (by first | rfl | (simp; done) | (simp [*]; done)), H', ⟨by have := HK1.out; omega⟩, by repeat (first | exact Drawn0.refl _ | apply Drawn0.step)⟩
       rw [if_neg c7] at H
       have c7b0 : ((rd l0 x5_1) == (rd l1 x5_1)) = false := beq_eq_false_iff_ne.mpr c7
       have c7b1 : ((rd l0 x5_1) != (rd l1 x5_1)) = true := bne_iff_ne.mpr c7
       obtain rfl := Option.some.inj H
       have p430 : 0 ≤ (x5_1 : Int) := of_decide_eq_true (by first | (with_reducible assumption) | assumption)
       have q8 : x5_1 < (l0.length : Int) := of_decide_eq_true (by first | (with_reducible assumption) | assumption)
       obtain ⟨ad8, e430, hx8_0⟩ := Kd.at_int HR0.out x5_1 p430 q8
       cases e430
       replace p430 := eq_true p430
       replace q8 := eq_true q8
       have p431 : 0 ≤ (x5_1 : Int) := of_decide_eq_true (by first | (with_reducible assumption) | assumption)
       have q9 : x5_1 < (l1.length : Int) := of_decide_eq_true (by first | (with_reducible assumption) | assumption)
       obtain ⟨ad9, e431, hx9_0⟩ := Kd.at_int HR1.out x5_1 p431 q9
       cases e431
       replace p431 := eq_true p431
       replace q9 := eq_true q9
       go_wp2
       repeat (go_quiet (fail); try go_wp2)
       go_ret
       exact ⟨by first | rfl | (simp; done) | (simp [*]; done), by repeat (first | exact Drawn0.refl _ | apply Drawn0.step)⟩
      rw [if_neg c6] at H
      exact absurd H (by simp)
     rw [if_neg c5] at H
     exact absurd H (by simp)
    rw [if_neg c4] at H
    have c4b0 : decide (x5_1 < (l0.length : Int)) = false := decide_eq_false c4
    clear c4
    obtain rfl := Option.some.inj H
    go_wp2
    repeat (go_quiet (fail); try go_wp2)
    go_ret
    exact ⟨by first | rfl | (simp; done) | (simp [*]; done), by repeat (first | exact Drawn0.refl _ | apply Drawn0.step)⟩
 rw [if_neg c3] at H
 have c3b0 : ((l0.length : Int) == (l1.length : Int)) = false := beq_eq_false_iff_ne.mpr c3
 have c3b1 : ((l0.length : Int) != (l1.length : Int)) = true := bne_iff_ne.mpr c3
 have c3b2 : (l0.length == l1.length) = false := by first | simpa using c3 | (simp at c3 ⊢; omega)
 obtain rfl := Option.some.inj H
 go_enter Try.func59, Try.ntmps59
 go_wp2
 repeat (go_quiet (fail); try go_wp2)
 go_ret
 exact ⟨by first | rfl | (simp; done) | (simp [*]; done), by repeat (first | exact Drawn0.refl _ | apply Drawn0.step)⟩
set_option maxHeartbeats 8000000 in
set_option maxRecDepth 100000 in
theorem ZleqIntsResult.calls (k : Nat) (a0_0 : Int) (A0_1 : Option Addr) (c0_1 : Nat) (l0_1 : List Int) (a1_0 : Int) (A1_1 : Option Addr) (c1_1 : Nat) (l1_1 : List Int) (r : Bool) (w : World) (hr0_1 : Kd.C (Kd.int .i64) w A0_1 l0_1.length l0_1) (hc0_1 : l0_1.length ≤ c0_1) (hr1_1 : Kd.C (Kd.int .i64) w A1_1 l1_1.length l1_1) (hc1_1 : l1_1.length ≤ c1_1) (h : ZleqIntsResult.f k a0_0 l0_1 a1_0 l1_1 = some r) :
 Calls Try.prog 20 #[.agg #[.int .i64 a0_0, .slice A0_1 l0_1.length c0_1], .agg #[.int .i64 a1_0, .slice A1_1 l1_1.length c1_1]] w fun e w' => e = .returned (.bool r) ∧ Below w.heap.size w w' := by
 have hu35 := Try.underlying35
 have HR0_1 := Qz.mk hr0_1
 have HC0_1 := Qz.mk hc0_1
 clear hr0_1 hc0_1
 have HR1_1 := Qz.mk hr1_1
 have HC1_1 := Qz.mk hc1_1
 clear hr1_1 hc1_1
 have HB := Qz.mk (Below.refl w.heap.size w)
 have H : (if a0_0 = a1_0 then ((ZleqInt64S.f k l0_1 l1_1).bind fun t23 => (if t23 = true then (some true) else (some false))) else (some false)) = some r := h
 clear h
 by_cases c3 : a0_0 = a1_0
 ·rw [if_pos c3] at H
  have c3b0 : (a0_0 == a1_0) = true := beq_iff_eq.mpr c3
  have c3b1 : (a0_0 != a1_0) = false := bne_eq_false_iff_eq.mpr c3
  clear c3
  replace H := Qj9 H
  obtain ⟨t23, A40, H⟩ := H
  replace H : (if t23 = true then (some true) else (some false)) = some r := H
  have A4 := Qz.mk A40
  clear A40
  by_cases c5 : t23 = true
  ·subst c5
   have H1 : (some true) = some r := by rw [if_pos rfl] at H; exact H
   clear H
   have H := H1
   clear H1
   obtain rfl := Option.some.inj H
   go_enter Try.func20, Try.ntmps20
   go_wp2_with (first | ((with_reducible refine gate_dst (N := 2) rfl ?_); refine box_event ?hg (N := 2) ?hd (cs := #[.int .i64 a0_0, .slice A0_1 l0_1.length c0_1]) (t := 35) ?hr ?_; (case hd => rfl); (case hg => rfl); (case hr => first | (go_simp; done) | (go_simp; rfl)); intro gb21 hg w6 hbox hb; have n0_ := Qz.mk (Qq (by repeat (first | (with_reducible first | exact HB.out | apply Qc | apply Qa | apply Qb) | exact HB.out)) hb); have n1_ := Qz.mk (hbox); have n2_ := Qz.mk ((by rw [hg]; exact (Qp (by repeat (first | (with_reducible first | exact HB.out | apply Qc | apply Qa | apply Qb) | exact HB.out))) : w.heap.size ≤ gb21)); have n3_ := n2_; clear HB; have HB := n0_; have BK21 := n1_; have GW21 := n2_; have GE21 := n3_; clear n0_ n1_ n2_ n3_; clear hb hbox hg) | ((with_reducible refine gate_dst (N := 3) rfl ?_); refine box_event ?hg (N := 3) ?hd (cs := #[.int .i64 a1_0, .slice A1_1 l1_1.length c1_1]) (t := 35) ?hr ?_; (case hd => rfl); (case hg => rfl); (case hr => first | (go_simp; done) | (go_simp; rfl)); intro gb22 hg w7 hbox hb; have n0_ := Qz.mk (Qi (g := gb21) (o := .cells #[.int .i64 a0_0, .slice A0_1 l0_1.length c0_1] 35 (0, 0)) (by (with_reducible repeat (first | refine Qe ?_ _ | refine Qg ?_ | refine Qf ?_ _)); exact BK21.out) hb); have n1_ := Qz.mk (Qq (by repeat (first | (with_reducible first | exact HB.out | apply Qc | apply Qa | apply Qb | refine Qd ?_ GE21.out) | exact HB.out)) hb); have n2_ := Qz.mk (hbox); have n3_ := Qz.mk ((by rw [hg]; exact (Qp (by repeat (first | (with_reducible first | exact HB.out | apply Qc | apply Qa | apply Qb | refine Qd ?_ GE21.out) | exact HB.out))) : w.heap.size ≤ gb22)); have n4_ := n3_; have n5_ := Qz.mk ((by rw [hg]; exact Nat.ne_of_lt (Ql (g := gb21) (o := .cells #[.int .i64 a0_0, .slice A0_1 l0_1.length c0_1] 35 (0, 0)) (by (with_reducible repeat (first | refine Qe ?_ _ | refine Qg ?_ | refine Qf ?_ _)); exact BK21.out)) : gb21 ≠ gb22)); have n6_ := Qz.mk ((by rw [hg]; exact Nat.ne_of_gt (Ql (g := gb21) (o := .cells #[.int .i64 a0_0, .slice A0_1 l0_1.length c0_1] 35 (0, 0)) (by (with_reducible repeat (first | refine Qe ?_ _ | refine Qg ?_ | refine Qf ?_ _)); exact BK21.out)) : gb22 ≠ gb21)); clear BK21; clear HB; have BK21 := n0_; have HB := n1_; have BK22 := n2_; have GW22 := n3_; have GE22 := n4_; have NB432_433 := n5_; have NB433_432 := n6_; clear n0_ n1_ n2_ n3_ n4_ n5_ n6_; clear hb hbox hg; have hnb8 := NB432_433.out; have hnc8 := NB433_432.out; obtain ⟨z9_0, z9_1, j9_0, j9_1⟩ := Lv.blks2 BK21.out; obtain ⟨z10_0, z10_1, j10_0, j10_1⟩ := Lv.blks2 BK22.out) | ((with_reducible refine gate_callee (f := 59) rfl ?_); refine Qat (some 14) rfl rfl Try.func59 (by kernel_rfl) rfl #[.slice A0_1 l0_1.length c0_1, .slice A1_1 l1_1.length c1_1] rfl (by (try simp only [Qj4, Qj5, Qj6]); first | done | rfl | (simp only [Qj7, Qj8]; rfl)) ?_; (with_reducible refine (ZleqInt64S.calls k _ _ l0_1 _ _ l1_1 true _ ?side1 ?side2 ?side3 ?side4 A4.out).mono ?_); (case side1 => repeat (first | exact (Kd.Qac HR0_1.out HB.out) | (with_reducible first | refine Kd.Qaa ?_ _ | refine Kd.Qz ?_ _ | refine Kd.Qab ?_))); (case side2 => exact HC0_1.out); (case side3 => repeat (first | exact (Kd.Qac HR1_1.out HB.out) | (with_reducible first | refine Kd.Qaa ?_ _ | refine Kd.Qz ?_ _ | refine Kd.Qab ?_))); (case side4 => exact HC1_1.out); rintro e w' ⟨rfl, ⟨nd, rfl⟩⟩; refine ⟨_, rfl, ?_⟩))
   go_ret
   exact ⟨by first | rfl | (simp [Qv, Qu] <;> rfl) | (simp [*, Qv, Qu] <;> rfl), by repeat (first | (with_reducible first | exact HB.out | apply Qc | apply Qa | apply Qb | refine Qd ?_ GE21.out | refine Qd ?_ GE22.out) | exact HB.out)⟩
  replace c5 := Bool.eq_false_iff.mpr c5
  subst c5
  have H1 : (some false) = some r := by rw [if_neg (show ¬ (false = true) by decide)] at H; exact H
  clear H
  have H := H1
  clear H1
  obtain rfl := Option.some.inj H
  go_enter Try.func20, Try.ntmps20
  go_wp2_with (first | ((with_reducible refine gate_dst (N := 2) rfl ?_); refine box_event ?hg (N := 2) ?hd (cs := #[.int .i64 a0_0, .slice A0_1 l0_1.length c0_1]) (t := 35) ?hr ?_; (case hd => rfl); (case hg => rfl); (case hr => first | (go_simp; done) | (go_simp; rfl)); intro gb21 hg w11 hbox hb; have n0_ := Qz.mk (Qq (by repeat (first | (with_reducible first | exact HB.out | apply Qc | apply Qa | apply Qb) | exact HB.out)) hb); have n1_ := Qz.mk (hbox); have n2_ := Qz.mk ((by rw [hg]; exact (Qp (by repeat (first | (with_reducible first | exact HB.out | apply Qc | apply Qa | apply Qb) | exact HB.out))) : w.heap.size ≤ gb21)); have n3_ := n2_; clear HB; have HB := n0_; have BK21 := n1_; have GW21 := n2_; have GE21 := n3_; clear n0_ n1_ n2_ n3_; clear hb hbox hg) | ((with_reducible refine gate_dst (N := 3) rfl ?_); refine box_event ?hg (N := 3) ?hd (cs := #[.int .i64 a1_0, .slice A1_1 l1_1.length c1_1]) (t := 35) ?hr ?_; (case hd => rfl); (case hg => rfl); (case hr => first | (go_simp; done) | (go_simp; rfl)); intro gb22 hg w12 hbox hb; have n0_ := Qz.mk (Qi (g := gb21) (o := .cells #[.int .i64 a0_0, .slice A0_1 l0_1.length c0_1] 35 (0, 0)) (by (with_reducible repeat (first | refine Qe ?_ _ | refine Qg ?_ | refine Qf ?_ _)); exact BK21.out) hb); have n1_ := Qz.mk (Qq (by repeat (first | (with_reducible first | exact HB.out | apply Qc | apply Qa | apply Qb | refine Qd ?_ GE21.out) | exact HB.out)) hb); have n2_ := Qz.mk (hbox); have n3_ := Qz.mk ((by rw [hg]; exact (Qp (by repeat (first | (with_reducible first | exact HB.out | apply Qc | apply Qa | apply Qb | refine Qd ?_ GE21.out) | exact HB.out))) : w.heap.size ≤ gb22)); have n4_ := n3_; have n5_ := Qz.mk ((by rw [hg]; exact Nat.ne_of_lt (Ql (g := gb21) (o := .cells #[.int .i64 a0_0, .slice A0_1 l0_1.length c0_1] 35 (0, 0)) (by (with_reducible repeat (first | refine Qe ?_ _ | refine Qg ?_ | refine Qf ?_ _)); exact BK21.out)) : gb21 ≠ gb22)); have n6_ := Qz.mk ((by rw [hg]; exact Nat.ne_of_gt (Ql (g := gb21) (o := .cells #[.int .i64 a0_0, .slice A0_1 l0_1.length c0_1] 35 (0, 0)) (by (with_reducible repeat (first | refine Qe ?_ _ | refine Qg ?_ | refine Qf ?_ _)); exact BK21.out)) : gb22 ≠ gb21)); clear BK21; clear HB; have BK21 := n0_; have HB := n1_; have BK22 := n2_; have GW22 := n3_; have GE22 := n4_; have NB432_433 := n5_; have NB433_432 := n6_; clear n0_ n1_ n2_ n3_ n4_ n5_ n6_; clear hb hbox hg; have hnb13 := NB432_433.out; have hnc13 := NB433_432.out; obtain ⟨z14_0, z14_1, j14_0, j14_1⟩ := Lv.blks2 BK21.out; obtain ⟨z15_0, z15_1, j15_0, j15_1⟩ := Lv.blks2 BK22.out) | ((with_reducible refine gate_callee (f := 59) rfl ?_); refine Qat (some 14) rfl rfl Try.func59 (by kernel_rfl) rfl #[.slice A0_1 l0_1.length c0_1, .slice A1_1 l1_1.length c1_1] rfl (by (try simp only [Qj4, Qj5, Qj6]); first | done | rfl | (simp only [Qj7, Qj8]; rfl)) ?_; (with_reducible refine (ZleqInt64S.calls k _ _ l0_1 _ _ l1_1 false _ ?side1 ?side2 ?side3 ?side4 A4.out).mono ?_); (case side1 => repeat (first | exact (Kd.Qac HR0_1.out HB.out) | (with_reducible first | refine Kd.Qaa ?_ _ | refine Kd.Qz ?_ _ | refine Kd.Qab ?_))); (case side2 => exact HC0_1.out); (case side3 => repeat (first | exact (Kd.Qac HR1_1.out HB.out) | (with_reducible first | refine Kd.Qaa ?_ _ | refine Kd.Qz ?_ _ | refine Kd.Qab ?_))); (case side4 => exact HC1_1.out); rintro e w' ⟨rfl, ⟨nd, rfl⟩⟩; refine ⟨_, rfl, ?_⟩))
  go_ret
  exact ⟨by first | rfl | (simp [Qv, Qu] <;> rfl) | (simp [*, Qv, Qu] <;> rfl), by repeat (first | (with_reducible first | exact HB.out | apply Qc | apply Qa | apply Qb | refine Qd ?_ GE21.out | refine Qd ?_ GE22.out) | exact HB.out)⟩
 rw [if_neg c3] at H
 have c3b0 : (a0_0 == a1_0) = false := beq_eq_false_iff_ne.mpr c3
 have c3b1 : (a0_0 != a1_0) = true := bne_iff_ne.mpr c3
 obtain rfl := Option.some.inj H
 go_enter Try.func20, Try.ntmps20
 go_wp2_with (first | ((with_reducible refine gate_dst (N := 2) rfl ?_); refine box_event ?hg (N := 2) ?hd (cs := #[.int .i64 a0_0, .slice A0_1 l0_1.length c0_1]) (t := 35) ?hr ?_; (case hd => rfl); (case hg => rfl); (case hr => first | (go_simp; done) | (go_simp; rfl)); intro gb21 hg w16 hbox hb; have n0_ := Qz.mk (Qq (by repeat (first | (with_reducible first | exact HB.out | apply Qc | apply Qa | apply Qb) | exact HB.out)) hb); have n1_ := Qz.mk (hbox); have n2_ := Qz.mk ((by rw [hg]; exact (Qp (by repeat (first | (with_reducible first | exact HB.out | apply Qc | apply Qa | apply Qb) | exact HB.out))) : w.heap.size ≤ gb21)); have n3_ := n2_; clear HB; have HB := n0_; have BK21 := n1_; have GW21 := n2_; have GE21 := n3_; clear n0_ n1_ n2_ n3_; clear hb hbox hg) | ((with_reducible refine gate_dst (N := 3) rfl ?_); refine box_event ?hg (N := 3) ?hd (cs := #[.int .i64 a1_0, .slice A1_1 l1_1.length c1_1]) (t := 35) ?hr ?_; (case hd => rfl); (case hg => rfl); (case hr => first | (go_simp; done) | (go_simp; rfl)); intro gb22 hg w17 hbox hb; have n0_ := Qz.mk (Qi (g := gb21) (o := .cells #[.int .i64 a0_0, .slice A0_1 l0_1.length c0_1] 35 (0, 0)) (by (with_reducible repeat (first | refine Qe ?_ _ | refine Qg ?_ | refine Qf ?_ _)); exact BK21.out) hb); have n1_ := Qz.mk (Qq (by repeat (first | (with_reducible first | exact HB.out | apply Qc | apply Qa | apply Qb | refine Qd ?_ GE21.out) | exact HB.out)) hb); have n2_ := Qz.mk (hbox); have n3_ := Qz.mk ((by rw [hg]; exact (Qp (by repeat (first | (with_reducible first | exact HB.out | apply Qc | apply Qa | apply Qb | refine Qd ?_ GE21.out) | exact HB.out))) : w.heap.size ≤ gb22)); have n4_ := n3_; have n5_ := Qz.mk ((by rw [hg]; exact Nat.ne_of_lt (Ql (g := gb21) (o := .cells #[.int .i64 a0_0, .slice A0_1 l0_1.length c0_1] 35 (0, 0)) (by (with_reducible repeat (first | refine Qe ?_ _ | refine Qg ?_ | refine Qf ?_ _)); exact BK21.out)) : gb21 ≠ gb22)); have n6_ := Qz.mk ((by rw [hg]; exact Nat.ne_of_gt (Ql (g := gb21) (o := .cells #[.int .i64 a0_0, .slice A0_1 l0_1.length c0_1] 35 (0, 0)) (by (with_reducible repeat (first | refine Qe ?_ _ | refine Qg ?_ | refine Qf ?_ _)); exact BK21.out)) : gb22 ≠ gb21)); clear BK21; clear HB; have BK21 := n0_; have HB := n1_; have BK22 := n2_; have GW22 := n3_; have GE22 := n4_; have NB432_433 := n5_; have NB433_432 := n6_; clear n0_ n1_ n2_ n3_ n4_ n5_ n6_; clear hb hbox hg; have hnb18 := NB432_433.out; have hnc18 := NB433_432.out; obtain ⟨z19_0, z19_1, j19_0, j19_1⟩ := Lv.blks2 BK21.out; obtain ⟨z20_0, z20_1, j20_0, j20_1⟩ := Lv.blks2 BK22.out))
 go_ret
 exact ⟨by first | rfl | (simp [Qv, Qu] <;> rfl) | (simp [*, Qv, Qu] <;> rfl), by repeat (first | (with_reducible first | exact HB.out | apply Qc | apply Qa | apply Qb | refine Qd ?_ GE21.out | refine Qd ?_ GE22.out) | exact HB.out)⟩
set_option maxHeartbeats 8000000 in
set_option maxRecDepth 100000 in
theorem ZlmarkInt64S.calls (k : Nat) (P0_ : Nat → Prop) (u9000_ : Value) (l0 : List Int) (a1 : Int) (r1 : Int) (r2 : List Int) (w0 w : World) (hB : Below w0.heap.size w0 w) (ho0 : Kd.R (Kd.int .i64) 2 w w0.heap.size P0_ u9000_ l0) (h : ZlmarkInt64S.f k l0 a1 = some (r1, r2)) :
 Calls Try.prog 61 #[u9000_, .int .i64 a1] w fun e w' => e = .returned (.int .i64 r1) ∧ Kd.R (Kd.int .i64) 2 w' w0.heap.size (fun k_ => (P0_ k_ ∨ w.heap.size ≤ k_)) u9000_ r2 ∧ Below w0.heap.size w0 w' ∧ Kept w w' (fun k_ => P0_ k_) := by
 have HO0 := Qz.mk (show Kd.R (Kd.int .i64) 2 w w0.heap.size (fun k_ => (P0_ k_ ∨ w.heap.size ≤ k_)) u9000_ l0 from Kd.Qw ho0 (fun k_ hk => (.inl hk)))
 have HK := Qz.mk (Kept.refl w (fun k_ => P0_ k_))
 have HW0 := Qz.mk hB.size
 have HB := Qz.mk hB
 clear hB
 have H : (ZlmarkInt64S.l0 k l0 a1 0) = some (r1, r2) := h
 clear h
 have H' := Qz.mk H
 clear H
 go_enter Try.func61, Try.ntmps61
 go_wp2
 go_loopg [1, 5] k (fun kq v1 v5 w' => ∃ (x0_1 : List Int) (x1_1 : Int) (x5_1 : Int), v1 = .int .i64 x1_1 ∧ v5 = .int .i64 x5_1 ∧ Qz (ZlmarkInt64S.l0 kq x0_1 x1_1 x5_1 = some (r1, r2)) ∧ Qz (kq ≤ k) ∧ Qz (Kd.R (Kd.int .i64) 2 w' w0.heap.size (fun k_ => (P0_ k_ ∨ w.heap.size ≤ k_)) u9000_ x0_1) ∧ Qz (Kept w w' (fun k_ => P0_ k_)) ∧ Qz (Below w0.heap.size w0 w'))
 case atStart => exact ⟨(l0), (a1), (0), (by first | rfl | (simp; done) | (simp [*]; done)), (by first | rfl | (simp; done) | (simp [*]; done)), H', ⟨Nat.le_refl _⟩, ⟨by (with_reducible repeat (first | apply Kd.Qn | apply Kd.Qm | apply Kd.Qo)); exact HO0.out⟩, ⟨by repeat (first | (with_reducible first | exact HK.out | apply Kept.alloc | apply Kept.drewN | apply Kept.drew) | exact HK.out)⟩, ⟨by repeat (first | (with_reducible first | exact HB.out | apply Qc | apply Qa | apply Qb) | exact HB.out)⟩⟩
 case round =>
  clear H'
  try clear p2
  obtain ⟨x0_1, x1_1, x5_1, rfl, rfl, HA, HK1, HO_0, HK, HB⟩ := hrel
  cases gk with
  | zero => exact absurd HA.out (by simp [ZlmarkInt64S.l0])
  | succ k1 =>
   have H := HA.out
   clear HA
   simp only [ZlmarkInt64S.l0] at H
   by_cases c3 : x5_1 < (x0_1.length : Int)
   ·rw [if_pos c3] at H
    have c3b0 : decide (x5_1 < (x0_1.length : Int)) = true := decide_eq_true c3
    clear c3
    by_cases c4 : 0 ≤ x5_1
    ·rw [if_pos c4] at H
     have c4b0 : decide (0 ≤ x5_1) = true := decide_eq_true c4
     clear c4
     obtain ⟨y10, hy10⟩ : ∃ y_ : List Int, y_ = (x0_1.set (x5_1 : Int).toNat x1_1) := ⟨_, rfl⟩
     replace H : (ZlmarkInt64S.l0 k1 y10 (wrap64 (x1_1 + 1)) (wrap64 (x5_1 + 1))) = some (r1, r2) := by first | (rw [hy10]; with_reducible exact H) | (have H2_ := (Option.bind_some _ _).symm.trans H; rw [hy10]; with_reducible exact H2_) | (have H2_ := (Option.bind_some _ _).symm.trans H; with_reducible exact H2_) | with_reducible exact H | (rw [hy10]; exact H) | exact H
     have Ny10 := Qz.mk hy10
     clear hy10
     have H' := Qz.mk H
     clear H
     obtain ⟨Ao6, co6, eo6⟩ := Kd.R_slice HO_0.out
     subst eo6
     have p5 : 0 ≤ (x5_1 : Int) := of_decide_eq_true (by first | (with_reducible assumption) | assumption)
     have q5 : (x5_1 : Int) < ((x0_1.length : Int) : Int) := of_decide_eq_true (by first | (with_reducible assumption) | assumption)
     obtain ⟨go5, co5, eo5, gb5, gl5, cl5, HG5⟩ := Kd.R_form HO_0.out (by omega)
     (first | cases eo5 | (injection eo5 with ea_ en_ ec_; (first | subst ea_ | (injection ea_ with ea_; subst ea_)); subst ec_; clear en_))
     have GB5 := Qz.mk gb5
     have GG5 := Qz.mk HG5
     clear gb5 gl5 HG5
     have HMgo5 := Qz.mk (show (P0_ go5 ∨ w.heap.size ≤ go5) from (HO_0.out.1 _ rfl))
     obtain ⟨hx5_0, hf5_0⟩ := Kd.R_celln 0 HO_0.out (x5_1 : Int) p5 q5
     replace p5 := eq_true p5
     replace q5 := eq_true q5
     have HP7 := Kd.R_putg HO_0.out (x5_1 : Int) x1_1
     go_wp2_with (first | ((with_reducible refine gate_store (t := 2) (p := 15) rfl ?_); refine store_event (t := 2) (p := 15) (v := ?vo_w8) (w1 := (wr.setCell ⟨go5, (x5_1 : Int).toNat, none⟩ (.int .i64 x1_1))) ?hg ?ho ?hn ?hr ?_; (case ho => rfl); (case hg => rfl); (case hn => rfl); (case hr => first | (go_simp; done) | (go_simp; rfl)); intro w8 hw; have hg : wr.grownBy w8 (some go5) := (by rw [hw]; exact HP7.2); have hp_ : Kd.R (Kd.int .i64) 2 w8 w0.heap.size (fun k_ => (P0_ k_ ∨ w.heap.size ≤ k_)) (.slice (some ⟨go5, 0, none⟩) x0_1.length co6) y10 := (by rw [hw, Ny10.out]; exact HP7.1); clear HP7; have n0_ := Qz.mk (hp_); have n1_ := Qz.mk ((by rw [hw]; exact Qd (HB.out) GB5.out : Below w0.heap.size w0 w8)); have n2_ := Qz.mk (Kept.of_grown (S := (fun k_ => P0_ k_)) hg (by repeat (first | (with_reducible first | exact HK.out | apply Kept.alloc | apply Kept.drewN | apply Kept.drew) | exact HK.out)) (fun k_ e_ => (HO_0.out.1 k_ e_))); clear HO_0; clear HB; clear HK; have HO_0 := n0_; have HB := n1_; have HK := n2_; clear n0_ n1_ n2_; clear hg hw hp_))
     go_roundg k1
     case measure => have := HK1.out; omega
     case rel => exact ⟨(y10), (wrap64 (x1_1 + 1)), (wrap64 (x5_1 + 1)), (by first | rfl | (simp; done) | (simp [*]; done)), (by first | rfl | (simp; done) | (simp [*]; done)), H', ⟨by have := HK1.out; omega⟩, ⟨by (with_reducible repeat (first | apply Kd.Qn | apply Kd.Qm | apply Kd.Qo)); exact HO_0.out⟩, ⟨by repeat (first | (with_reducible first | exact HK.out | apply Kept.alloc | apply Kept.drewN | apply Kept.drew) | exact HK.out)⟩, ⟨by repeat (first | (with_reducible first | exact HB.out | apply Qc | apply Qa | apply Qb) | exact HB.out)⟩⟩
    rw [if_neg c4] at H
    exact absurd H (by simp)
   rw [if_neg c3] at H
   have c3b0 : decide (x5_1 < (x0_1.length : Int)) = false := decide_eq_false c3
   clear c3
   simp only [Option.some.injEq, Prod.mk.injEq] at H
   obtain ⟨rfl, rfl⟩ := H
   obtain ⟨Ao9, co9, eo9⟩ := Kd.R_slice HO_0.out
   subst eo9
   go_wp2
   go_ret
   exact ⟨by first | rfl | (simp [Qv, Qu] <;> rfl) | (simp [*, Qv, Qu] <;> rfl), by (with_reducible repeat (first | apply Kd.Qn | apply Kd.Qm | apply Kd.Qo)); exact HO_0.out, by repeat (first | (with_reducible first | exact HB.out | apply Qc | apply Qa | apply Qb) | exact HB.out), by repeat (first | (with_reducible first | exact HK.out | apply Kept.alloc | apply Kept.drewN | apply Kept.drew) | exact HK.out)⟩
set_option maxHeartbeats 8000000 in
set_option maxRecDepth 100000 in
theorem ZlmarkIntsResult.calls (k : Nat) (a0_0 : Int) (P0_1_ : Nat → Prop) (u9000_ : Value) (l0_1 : List Int) (a1 : Int) (r1 : Int) (r2 : List Int) (w0 w : World) (hB : Below w0.heap.size w0 w) (ho0_1 : Kd.R (Kd.int .i64) 2 w w0.heap.size P0_1_ u9000_ l0_1) (h : ZlmarkIntsResult.f k a0_0 l0_1 a1 = some (r1, r2)) :
 Calls Try.prog 23 #[.agg #[.int .i64 a0_0, u9000_], .int .i64 a1] w fun e w' => e = .returned (.int .i64 r1) ∧ Kd.R (Kd.int .i64) 2 w' w0.heap.size (fun k_ => (P0_1_ k_ ∨ w.heap.size ≤ k_)) u9000_ r2 ∧ Below w0.heap.size w0 w' ∧ Kept w w' (fun k_ => P0_1_ k_) := by
 have hu35 := Try.underlying35
 have HO0_1 := Qz.mk (show Kd.R (Kd.int .i64) 2 w w0.heap.size (fun k_ => (P0_1_ k_ ∨ w.heap.size ≤ k_)) u9000_ l0_1 from Kd.Qw ho0_1 (fun k_ hk => (.inl hk)))
 have HK := Qz.mk (Kept.refl w (fun k_ => P0_1_ k_))
 have HW0 := Qz.mk hB.size
 have HB := Qz.mk hB
 clear hB
 have H : ((ZlmarkInt64S.f k l0_1 a1).bind fun bt11 => (some (bt11.1, bt11.2))) = some (r1, r2) := h
 clear h
 replace H := Qj9 H
 obtain ⟨⟨t11, t12⟩, A30, H⟩ := H
 replace H : (some (t11, t12)) = some (r1, r2) := H
 have A3 := Qz.mk A30
 clear A30
 simp only [Option.some.injEq, Prod.mk.injEq] at H
 obtain ⟨rfl, rfl⟩ := H
 obtain ⟨Ao4, co4, eo4⟩ := Kd.R_slice HO0_1.out
 subst eo4
 go_enter Try.func23, Try.ntmps23
 go_wp2_with (first | ((with_reducible refine gate_dst (N := 2) rfl ?_); refine box_event ?hg (N := 2) ?hd (cs := #[.int .i64 a0_0, .slice Ao4 l0_1.length co4]) (t := 35) ?hr ?_; (case hd => rfl); (case hg => rfl); (case hr => first | (go_simp; done) | (go_simp; rfl)); intro gb10 hg w5 hbox hb; have n0_ := Qz.mk (Kd.Qy (by (with_reducible repeat (first | apply Kd.Qn | apply Kd.Qm | apply Kd.Qo)); exact HO0_1.out) hb); have n1_ := Qz.mk (Kept.below (S := (fun k_ => P0_1_ k_)) (by repeat (first | (with_reducible first | exact HK.out | apply Kept.alloc | apply Kept.drewN | apply Kept.drew) | exact HK.out)) hb); have n2_ := Qz.mk (Qq (by repeat (first | (with_reducible first | exact HB.out | apply Qc | apply Qa | apply Qb) | exact HB.out)) hb); have n3_ := Qz.mk (hbox); have n4_ := Qz.mk ((by rw [hg]; exact (by first | exact HK.out.1 | exact (show Kept w _ (fun k_ => P0_1_ k_) from by repeat (first | (with_reducible first | exact HK.out | apply Kept.alloc | apply Kept.drewN | apply Kept.drew) | exact HK.out)).1) : w.heap.size ≤ gb10)); have n5_ := Qz.mk ((by rw [hg]; exact (Qp (by repeat (first | (with_reducible first | exact HB.out | apply Qc | apply Qa | apply Qb) | exact HB.out))) : w0.heap.size ≤ gb10)); clear HO0_1; clear HK; clear HB; have HO0_1 := n0_; have HK := n1_; have HB := n2_; have BK10 := n3_; have GW10 := n4_; have GE10 := n5_; clear n0_ n1_ n2_ n3_ n4_ n5_; clear hb hbox hg; obtain ⟨z6_0, z6_1, j6_0, j6_1⟩ := Lv.blks2 BK10.out) | ((with_reducible refine gate_callee (f := 61) rfl ?_); refine Qat (some 8) rfl rfl Try.func61 (by kernel_rfl) rfl #[.slice Ao4 l0_1.length co4, .int .i64 a1] rfl (by (try simp only [Qj4, Qj5, Qj6]); first | done | rfl | (simp only [Qj7, Qj8]; rfl)) ?_; (with_reducible refine (ZlmarkInt64S.calls k (fun k_ => some k_ = (.slice Ao4 l0_1.length co4 : Value).ownBlock) (.slice Ao4 l0_1.length co4) l0_1 a1 t11 t12 w0 _ ?side1 ?side2 A3.out).mono ?_); (case side1 => repeat (first | (with_reducible first | exact HB.out | apply Qc | apply Qa | apply Qb | refine Qd ?_ GE10.out) | exact HB.out)); (case side2 => exact Kd.R_tight rfl HO0_1.out); rintro e w7 ⟨rfl, hy0, hb, hkp⟩; refine ⟨_, rfl, ?_⟩; have n0_ := Qz.mk (Kd.R_reok rfl hy0 (fun k_ e_ => HO0_1.out.1 k_ e_)); have n1_ := Qz.mk (blk_kept (by (with_reducible repeat (first | refine Qe ?_ _ | refine Qg ?_ | refine Qf ?_ _)); exact BK10.out) hkp (fun hs_ => (fun e_ => (Kd.R_ne HO0_1.out BK10.out (by decide)) e_) hs_)); have n2_ := Qz.mk (Kept.then_ (S := (fun k_ => P0_1_ k_)) (by repeat (first | (with_reducible first | exact HK.out | apply Kept.alloc | apply Kept.drewN | apply Kept.drew | refine Kept.setCell ?_ (.inr GW10.out) _) | exact HK.out)) hkp (fun k_ hs_ => (fun e_ => (HO0_1.out.1 k_ e_.symm)) hs_)); have n3_ := Qz.mk (hb); clear HO0_1; clear BK10; clear HK; clear HB; have HO0_1 := n0_; have BK10 := n1_; have HK := n2_; have HB := n3_; clear n0_ n1_ n2_ n3_; (try clear hb); (try clear hkp); (try clear hy0)))
 go_ret
 exact ⟨by first | rfl | (simp [Qv, Qu] <;> rfl) | (simp [*, Qv, Qu] <;> rfl), by (with_reducible repeat (first | apply Kd.Qn | apply Kd.Qm | apply Kd.Qo)); exact HO0_1.out, by repeat (first | (with_reducible first | exact HB.out | apply Qc | apply Qa | apply Qb | refine Qd ?_ GE10.out) | exact HB.out), by repeat (first | (with_reducible first | exact HK.out | apply Kept.alloc | apply Kept.drewN | apply Kept.drew | refine Kept.setCell ?_ (.inr GW10.out) _) | exact HK.out)⟩
set_option maxHeartbeats 8000000 in
set_option maxRecDepth 100000 in
theorem ZlheldInt64S.calls (k : Nat) (A0 : Option Addr) (c0 : Nat) (l0 : List Int) (a1 : Int) (r : Int) (w : World) (hr0 : Kd.C (Kd.int .i64) w A0 l0.length l0) (hc0 : l0.length ≤ c0) (h : ZlheldInt64S.f k l0 a1 = some r) :
 Calls Try.prog 62 #[.slice A0 l0.length c0, .int .i64 a1] w fun e w' => e = .returned (.int .i64 r) ∧ Drawn0 w w' := by
 have HR0 := Qz.mk hr0
 have HC0 := Qz.mk hc0
 clear hr0 hc0
 have H : (ZlheldInt64S.l0 k l0 a1 0) = some r := h
 clear h
 have H' := Qz.mk H
 clear H
 go_enter Try.func62, Try.ntmps62
 go_wp2
 go_loopg [1, 5] k (fun kq v1 v5 w' => ∃ (x1_1 : Int) (x5_1 : Int), v1 = .int .i64 x1_1 ∧ v5 = .int .i64 x5_1 ∧ Qz (ZlheldInt64S.l0 kq l0 x1_1 x5_1 = some r) ∧ Qz (kq ≤ k) ∧ Drawn0 w w')
 case atStart => exact ⟨(a1), (0), (by first | rfl | (simp; done) | (simp [*]; done)), (by first | rfl | (simp; done) | (simp [*]; done)), H', ⟨Nat.le_refl _⟩, by repeat (first | exact Drawn0.refl _ | apply Drawn0.step)⟩
 case round =>
  clear H'
  try clear p2
  obtain ⟨x1_1, x5_1, rfl, rfl, HA, HK1, ⟨m1, rfl⟩⟩ := hrel
  cases gk with
  | zero => exact absurd HA.out (by simp [ZlheldInt64S.l0])
  | succ k1 =>
   have H := HA.out
   clear HA
   simp only [ZlheldInt64S.l0] at H
   by_cases c3 : x5_1 < (l0.length : Int)
   ·rw [if_pos c3] at H
    have c3b0 : decide (x5_1 < (l0.length : Int)) = true := decide_eq_true c3
    clear c3
    by_cases c4 : 0 ≤ x5_1
    ·rw [if_pos c4] at H
     have c4b0 : decide (0 ≤ x5_1) = true := decide_eq_true c4
     clear c4
     by_cases c5 : (rd l0 x5_1) = x1_1
     ·rw [if_pos c5] at H
      have c5b0 : ((rd l0 x5_1) == x1_1) = true := beq_iff_eq.mpr c5
      have c5b1 : ((rd l0 x5_1) != x1_1) = false := bne_eq_false_iff_eq.mpr c5
      clear c5
      have H' := Qz.mk H
      clear H
      have p452 : 0 ≤ (x5_1 : Int) := of_decide_eq_true (by first | (with_reducible assumption) | assumption)
      have q6 : x5_1 < (l0.length : Int) := of_decide_eq_true (by first | (with_reducible assumption) | assumption)
      obtain ⟨ad6, e452, hx6_0⟩ := Kd.at_int HR0.out x5_1 p452 q6
      cases e452
      replace p452 := eq_true p452
      replace q6 := eq_true q6
      go_wp2
      go_roundg k1
      case measure => have := HK1.out; omega
      case rel => exact ⟨(wrap64 (x1_1 + 1)), (wrap64 (x5_1 + 1)), (by first | rfl | (simp; done) | (simp [*]; done)), (by first | rfl | (simp; done) | (simp [*]; done)), H', ⟨by have := HK1.out; omega⟩, by repeat (first | exact Drawn0.refl _ | apply Drawn0.step)⟩
     rw [if_neg c5] at H
     have c5b0 : ((rd l0 x5_1) == x1_1) = false := beq_eq_false_iff_ne.mpr c5
     have c5b1 : ((rd l0 x5_1) != x1_1) = true := bne_iff_ne.mpr c5
     obtain rfl := Option.some.inj H
     have p452 : 0 ≤ (x5_1 : Int) := of_decide_eq_true (by first | (with_reducible assumption) | assumption)
     have q6 : x5_1 < (l0.length : Int) := of_decide_eq_true (by first | (with_reducible assumption) | assumption)
     obtain ⟨ad6, e452, hx6_0⟩ := Kd.at_int HR0.out x5_1 p452 q6
     cases e452
     replace p452 := eq_true p452
     replace q6 := eq_true q6
     go_wp2
     go_ret
     exact ⟨by first | rfl | (simp; done) | (simp [*]; done), by repeat (first | exact Drawn0.refl _ | apply Drawn0.step)⟩
    rw [if_neg c4] at H
    exact absurd H (by simp)
   rw [if_neg c3] at H
   have c3b0 : decide (x5_1 < (l0.length : Int)) = false := decide_eq_false c3
   clear c3
   obtain rfl := Option.some.inj H
   go_wp2
   go_ret
   exact ⟨by first | rfl | (simp; done) | (simp [*]; done), by repeat (first | exact Drawn0.refl _ | apply Drawn0.step)⟩
set_option maxHeartbeats 8000000 in
set_option maxRecDepth 100000 in
theorem ZlheldIntsResult.calls (k : Nat) (a0_0 : Int) (A0_1 : Option Addr) (c0_1 : Nat) (l0_1 : List Int) (a1 : Int) (r : Int) (w : World) (hr0_1 : Kd.C (Kd.int .i64) w A0_1 l0_1.length l0_1) (hc0_1 : l0_1.length ≤ c0_1) (h : ZlheldIntsResult.f k a0_0 l0_1 a1 = some r) :
 Calls Try.prog 24 #[.agg #[.int .i64 a0_0, .slice A0_1 l0_1.length c0_1], .int .i64 a1] w fun e w' => e = .returned (.int .i64 r) ∧ Below w.heap.size w w' := by
 have hu35 := Try.underlying35
 have HR0_1 := Qz.mk hr0_1
 have HC0_1 := Qz.mk hc0_1
 clear hr0_1 hc0_1
 have HB := Qz.mk (Below.refl w.heap.size w)
 have H : ((ZlheldInt64S.f k l0_1 a1).bind fun t11 => (if t11 < 0 then (some (-1)) else (some t11))) = some r := h
 clear h
 replace H := Qj9 H
 obtain ⟨t11, A30, H⟩ := H
 replace H : (if t11 < 0 then (some (-1)) else (some t11)) = some r := H
 have A3 := Qz.mk A30
 clear A30
 by_cases c4 : t11 < 0
 ·rw [if_pos c4] at H
  have c4b0 : decide (t11 < 0) = true := decide_eq_true c4
  clear c4
  obtain rfl := Option.some.inj H
  go_enter Try.func24, Try.ntmps24
  go_wp2_with (first | ((with_reducible refine gate_dst (N := 2) rfl ?_); refine box_event ?hg (N := 2) ?hd (cs := #[.int .i64 a0_0, .slice A0_1 l0_1.length c0_1]) (t := 35) ?hr ?_; (case hd => rfl); (case hg => rfl); (case hr => first | (go_simp; done) | (go_simp; rfl)); intro gb10 hg w5 hbox hb; have n0_ := Qz.mk (Qq (by repeat (first | (with_reducible first | exact HB.out | apply Qc | apply Qa | apply Qb) | exact HB.out)) hb); have n1_ := Qz.mk (hbox); have n2_ := Qz.mk ((by rw [hg]; exact (Qp (by repeat (first | (with_reducible first | exact HB.out | apply Qc | apply Qa | apply Qb) | exact HB.out))) : w.heap.size ≤ gb10)); have n3_ := n2_; clear HB; have HB := n0_; have BK10 := n1_; have GW10 := n2_; have GE10 := n3_; clear n0_ n1_ n2_ n3_; clear hb hbox hg; obtain ⟨z6_0, z6_1, j6_0, j6_1⟩ := Lv.blks2 BK10.out) | ((with_reducible refine gate_callee (f := 62) rfl ?_); refine Qat (some 8) rfl rfl Try.func62 (by kernel_rfl) rfl #[.slice A0_1 l0_1.length c0_1, .int .i64 a1] rfl (by (try simp only [Qj4, Qj5, Qj6]); first | done | rfl | (simp only [Qj7, Qj8]; rfl)) ?_; (with_reducible refine (ZlheldInt64S.calls k _ _ l0_1 a1 t11 _ ?side1 ?side2 A3.out).mono ?_); (case side1 => repeat (first | exact (Kd.Qac HR0_1.out HB.out) | (with_reducible first | refine Kd.Qaa ?_ _ | refine Kd.Qz ?_ _ | refine Kd.Qab ?_))); (case side2 => exact HC0_1.out); rintro e w' ⟨rfl, ⟨nd, rfl⟩⟩; refine ⟨_, rfl, ?_⟩))
  go_ret
  exact ⟨by first | rfl | (simp [Qv, Qu] <;> rfl) | (simp [*, Qv, Qu] <;> rfl), by repeat (first | (with_reducible first | exact HB.out | apply Qc | apply Qa | apply Qb | refine Qd ?_ GE10.out) | exact HB.out)⟩
 rw [if_neg c4] at H
 have c4b0 : decide (t11 < 0) = false := decide_eq_false c4
 clear c4
 obtain rfl := Option.some.inj H
 go_enter Try.func24, Try.ntmps24
 go_wp2_with (first | ((with_reducible refine gate_dst (N := 2) rfl ?_); refine box_event ?hg (N := 2) ?hd (cs := #[.int .i64 a0_0, .slice A0_1 l0_1.length c0_1]) (t := 35) ?hr ?_; (case hd => rfl); (case hg => rfl); (case hr => first | (go_simp; done) | (go_simp; rfl)); intro gb10 hg w7 hbox hb; have n0_ := Qz.mk (Qq (by repeat (first | (with_reducible first | exact HB.out | apply Qc | apply Qa | apply Qb) | exact HB.out)) hb); have n1_ := Qz.mk (hbox); have n2_ := Qz.mk ((by rw [hg]; exact (Qp (by repeat (first | (with_reducible first | exact HB.out | apply Qc | apply Qa | apply Qb) | exact HB.out))) : w.heap.size ≤ gb10)); have n3_ := n2_; clear HB; have HB := n0_; have BK10 := n1_; have GW10 := n2_; have GE10 := n3_; clear n0_ n1_ n2_ n3_; clear hb hbox hg; obtain ⟨z8_0, z8_1, j8_0, j8_1⟩ := Lv.blks2 BK10.out) | ((with_reducible refine gate_callee (f := 62) rfl ?_); refine Qat (some 8) rfl rfl Try.func62 (by kernel_rfl) rfl #[.slice A0_1 l0_1.length c0_1, .int .i64 a1] rfl (by (try simp only [Qj4, Qj5, Qj6]); first | done | rfl | (simp only [Qj7, Qj8]; rfl)) ?_; (with_reducible refine (ZlheldInt64S.calls k _ _ l0_1 a1 t11 _ ?side1 ?side2 A3.out).mono ?_); (case side1 => repeat (first | exact (Kd.Qac HR0_1.out HB.out) | (with_reducible first | refine Kd.Qaa ?_ _ | refine Kd.Qz ?_ _ | refine Kd.Qab ?_))); (case side2 => exact HC0_1.out); rintro e w' ⟨rfl, ⟨nd, rfl⟩⟩; refine ⟨_, rfl, ?_⟩))
 go_ret
 exact ⟨by first | rfl | (simp [Qv, Qu] <;> rfl) | (simp [*, Qv, Qu] <;> rfl), by repeat (first | (with_reducible first | exact HB.out | apply Qc | apply Qa | apply Qb | refine Qd ?_ GE10.out) | exact HB.out)⟩
set_option maxHeartbeats 8000000 in
set_option maxRecDepth 100000 in
theorem ZlFnExactChainBack.calls (k : Nat) (A0 : Option Addr) (c0 : Nat) (l0 : List (S78)) (a1 : Int) (w : World) (hr0 : Kd.C k78 w A0 l0.length l0) (hc0 : l0.length ≤ c0) (h : ZlFnExactChainBack.f k l0 a1 = some true) :
 Calls Try.prog 4 #[.slice A0 l0.length c0, .int .i64 a1] w fun e w' => e = .returned (.bool true) ∧ Below w.heap.size w w' := by
 have hu35 := Try.underlying35
 have HR0 := Qz.mk hr0
 have HC0 := Qz.mk hc0
 clear hr0 hc0
 have HB := Qz.mk (Below.refl w.heap.size w)
 have H : ((ZlszRecS.f l0 1048576).bind fun t455 => (if t455 < 0 then (some true) else ((ZltoRecS.f k l0).bind fun t456 => ((ZsChainBack.f k t456 a1).bind fun bt76 => ((ZltoRecS.f k l0).bind fun t81 => ((ZiChainBack.f k t81 a1).bind fun bt73 => ((ZleqIntsResult.f k bt73.1 bt73.2 bt76.1 bt76.2).bind fun t98 => (if t98 = true then ((ZltoRecS.f k l0).bind fun t93 => ((ZleqRecS.f k t81 t93).bind fun t94 => (if t94 = true then ((ZlmarkRecS.f k t81 1).bind fun bt89 => (if bt89.1 < 0 then (ZlFnExactChainBack.j0 k l0 a1 true bt76.1 bt76.2 bt73.1 bt73.2) else ((ZleqIntsResult.f k bt73.1 bt73.2 bt76.1 bt76.2).bind fun t91 => (ZlFnExactChainBack.j0 k l0 a1 (!t91) bt76.1 bt76.2 bt73.1 bt73.2)))) else (some false)))) else (some false))))))))) = some true := h
 clear h
 replace H := Qj9 H
 obtain ⟨t455, A30, H⟩ := H
 replace H : (if t455 < 0 then (some true) else ((ZltoRecS.f k l0).bind fun t456 => ((ZsChainBack.f k t456 a1).bind fun bt76 => ((ZltoRecS.f k l0).bind fun t81 => ((ZiChainBack.f k t81 a1).bind fun bt73 => ((ZleqIntsResult.f k bt73.1 bt73.2 bt76.1 bt76.2).bind fun t98 => (if t98 = true then ((ZltoRecS.f k l0).bind fun t93 => ((ZleqRecS.f k t81 t93).bind fun t94 => (if t94 = true then ((ZlmarkRecS.f k t81 1).bind fun bt89 => (if bt89.1 < 0 then (ZlFnExactChainBack.j0 k l0 a1 true bt76.1 bt76.2 bt73.1 bt73.2) else ((ZleqIntsResult.f k bt73.1 bt73.2 bt76.1 bt76.2).bind fun t91 => (ZlFnExactChainBack.j0 k l0 a1 (!t91) bt76.1 bt76.2 bt73.1 bt73.2)))) else (some false)))) else (some false)))))))) = some true := H
 have A3 := Qz.mk A30
 clear A30
 by_cases c4 : t455 < 0
 ·rw [if_pos c4] at H
  have c4b0 : decide (t455 < 0) = true := decide_eq_true c4
  clear c4
  go_enter Try.func4, Try.ntmps4
  go_wp2_with (first | ((with_reducible refine gate_callee (f := 16) rfl ?_); refine Qat (some 15) rfl rfl Try.func16 (by kernel_rfl) rfl #[.slice A0 l0.length c0, .int .i64 1048576] rfl (by (try simp only [Qj4, Qj5, Qj6]); first | done | rfl | (simp only [Qj7, Qj8]; rfl)) ?_; (with_reducible refine (ZlszRecS.calls _ _ l0 1048576 t455 _ ?side1 ?side2 A3.out).mono ?_); (case side1 => repeat (first | exact HR0.out | (with_reducible first | refine Kd.Qaa ?_ _ | refine Kd.Qz ?_ _ | refine Kd.Qab ?_))); (case side2 => exact HC0.out); rintro e w' ⟨rfl, ⟨nd, rfl⟩⟩; refine ⟨_, rfl, ?_⟩))
  go_ret
  exact ⟨by first | rfl | (simp [Qv, Qu] <;> rfl) | (simp [*, Qv, Qu] <;> rfl), by repeat (first | (with_reducible first | exact HB.out | apply Qc | apply Qa | apply Qb) | exact HB.out)⟩
 rw [if_neg c4] at H
 have c4b0 : decide (t455 < 0) = false := decide_eq_false c4
 clear c4
 replace H := Qj9 H
 obtain ⟨t456, A50, H⟩ := H
 replace H : ((ZsChainBack.f k t456 a1).bind fun bt76 => ((ZltoRecS.f k l0).bind fun t81 => ((ZiChainBack.f k t81 a1).bind fun bt73 => ((ZleqIntsResult.f k bt73.1 bt73.2 bt76.1 bt76.2).bind fun t98 => (if t98 = true then ((ZltoRecS.f k l0).bind fun t93 => ((ZleqRecS.f k t81 t93).bind fun t94 => (if t94 = true then ((ZlmarkRecS.f k t81 1).bind fun bt89 => (if bt89.1 < 0 then (ZlFnExactChainBack.j0 k l0 a1 true bt76.1 bt76.2 bt73.1 bt73.2) else ((ZleqIntsResult.f k bt73.1 bt73.2 bt76.1 bt76.2).bind fun t91 => (ZlFnExactChainBack.j0 k l0 a1 (!t91) bt76.1 bt76.2 bt73.1 bt73.2)))) else (some false)))) else (some false)))))) = some true := H
 have A5 := Qz.mk A50
 clear A50
 replace H := Qj9 H
 obtain ⟨⟨t76, t77⟩, A60, H⟩ := H
 replace H : ((ZltoRecS.f k l0).bind fun t81 => ((ZiChainBack.f k t81 a1).bind fun bt73 => ((ZleqIntsResult.f k bt73.1 bt73.2 t76 t77).bind fun t98 => (if t98 = true then ((ZltoRecS.f k l0).bind fun t93 => ((ZleqRecS.f k t81 t93).bind fun t94 => (if t94 = true then ((ZlmarkRecS.f k t81 1).bind fun bt89 => (if bt89.1 < 0 then (ZlFnExactChainBack.j0 k l0 a1 true t76 t77 bt73.1 bt73.2) else ((ZleqIntsResult.f k bt73.1 bt73.2 t76 t77).bind fun t91 => (ZlFnExactChainBack.j0 k l0 a1 (!t91) t76 t77 bt73.1 bt73.2)))) else (some false)))) else (some false))))) = some true := H
 have A6 := Qz.mk A60
 clear A60
 replace H := Qj9 H
 obtain ⟨t81, A70, H⟩ := H
 replace H : ((ZiChainBack.f k t81 a1).bind fun bt73 => ((ZleqIntsResult.f k bt73.1 bt73.2 t76 t77).bind fun t98 => (if t98 = true then ((ZltoRecS.f k l0).bind fun t93 => ((ZleqRecS.f k t81 t93).bind fun t94 => (if t94 = true then ((ZlmarkRecS.f k t81 1).bind fun bt89 => (if bt89.1 < 0 then (ZlFnExactChainBack.j0 k l0 a1 true t76 t77 bt73.1 bt73.2) else ((ZleqIntsResult.f k bt73.1 bt73.2 t76 t77).bind fun t91 => (ZlFnExactChainBack.j0 k l0 a1 (!t91) t76 t77 bt73.1 bt73.2)))) else (some false)))) else (some false)))) = some true := H
 have A7 := Qz.mk A70
 clear A70
 replace H := Qj9 H
 obtain ⟨⟨t73, t79⟩, A80, H⟩ := H
 replace H : ((ZleqIntsResult.f k t73 t79 t76 t77).bind fun t98 => (if t98 = true then ((ZltoRecS.f k l0).bind fun t93 => ((ZleqRecS.f k t81 t93).bind fun t94 => (if t94 = true then ((ZlmarkRecS.f k t81 1).bind fun bt89 => (if bt89.1 < 0 then (ZlFnExactChainBack.j0 k l0 a1 true t76 t77 t73 t79) else ((ZleqIntsResult.f k t73 t79 t76 t77).bind fun t91 => (ZlFnExactChainBack.j0 k l0 a1 (!t91) t76 t77 t73 t79)))) else (some false)))) else (some false))) = some true := H
 have A8 := Qz.mk A80
 clear A80
 replace H := Qj9 H
 obtain ⟨t98, A90, H⟩ := H
 replace H : (if t98 = true then ((ZltoRecS.f k l0).bind fun t93 => ((ZleqRecS.f k t81 t93).bind fun t94 => (if t94 = true then ((ZlmarkRecS.f k t81 1).bind fun bt89 => (if bt89.1 < 0 then (ZlFnExactChainBack.j0 k l0 a1 true t76 t77 t73 t79) else ((ZleqIntsResult.f k t73 t79 t76 t77).bind fun t91 => (ZlFnExactChainBack.j0 k l0 a1 (!t91) t76 t77 t73 t79)))) else (some false)))) else (some false)) = some true := H
 have A9 := Qz.mk A90
 clear A90
 by_cases c10 : t98 = true
 ·subst c10
  have H1 : ((ZltoRecS.f k l0).bind fun t93 => ((ZleqRecS.f k t81 t93).bind fun t94 => (if t94 = true then ((ZlmarkRecS.f k t81 1).bind fun bt89 => (if bt89.1 < 0 then (ZlFnExactChainBack.j0 k l0 a1 true t76 t77 t73 t79) else ((ZleqIntsResult.f k t73 t79 t76 t77).bind fun t91 => (ZlFnExactChainBack.j0 k l0 a1 (!t91) t76 t77 t73 t79)))) else (some false)))) = some true := by rw [if_pos rfl] at H; first | done | exact H
  clear H
  have H := H1
  clear H1
  replace H := Qj9 H
  obtain ⟨t93, A110, H⟩ := H
  replace H : ((ZleqRecS.f k t81 t93).bind fun t94 => (if t94 = true then ((ZlmarkRecS.f k t81 1).bind fun bt89 => (if bt89.1 < 0 then (ZlFnExactChainBack.j0 k l0 a1 true t76 t77 t73 t79) else ((ZleqIntsResult.f k t73 t79 t76 t77).bind fun t91 => (ZlFnExactChainBack.j0 k l0 a1 (!t91) t76 t77 t73 t79)))) else (some false))) = some true := H
  have A11 := Qz.mk A110
  clear A110
  replace H := Qj9 H
  obtain ⟨t94, A120, H⟩ := H
  replace H : (if t94 = true then ((ZlmarkRecS.f k t81 1).bind fun bt89 => (if bt89.1 < 0 then (ZlFnExactChainBack.j0 k l0 a1 true t76 t77 t73 t79) else ((ZleqIntsResult.f k t73 t79 t76 t77).bind fun t91 => (ZlFnExactChainBack.j0 k l0 a1 (!t91) t76 t77 t73 t79)))) else (some false)) = some true := H
  have A12 := Qz.mk A120
  clear A120
  by_cases c13 : t94 = true
  ·subst c13
   have H1 : ((ZlmarkRecS.f k t81 1).bind fun bt89 => (if bt89.1 < 0 then (ZlFnExactChainBack.j0 k l0 a1 true t76 t77 t73 t79) else ((ZleqIntsResult.f k t73 t79 t76 t77).bind fun t91 => (ZlFnExactChainBack.j0 k l0 a1 (!t91) t76 t77 t73 t79)))) = some true := by rw [if_pos rfl] at H; first | done | exact H
   clear H
   have H := H1
   clear H1
   replace H := Qj9 H
   obtain ⟨⟨t89, t478⟩, A140, H⟩ := H
   replace H : (if t89 < 0 then (ZlFnExactChainBack.j0 k l0 a1 true t76 t77 t73 t79) else ((ZleqIntsResult.f k t73 t79 t76 t77).bind fun t91 => (ZlFnExactChainBack.j0 k l0 a1 (!t91) t76 t77 t73 t79))) = some true := H
   have A14 := Qz.mk A140
   clear A140
   have HC15 := Qz.mk H
   clear H
   go_enter Try.func4, Try.ntmps4
   go_upto_region 14 with (first | ((with_reducible refine gate_callee (f := 16) rfl ?_); refine Qat (some 15) rfl rfl Try.func16 (by kernel_rfl) rfl #[.slice A0 l0.length c0, .int .i64 1048576] rfl (by (try simp only [Qj4, Qj5, Qj6]); first | done | rfl | (simp only [Qj7, Qj8]; rfl)) ?_; (with_reducible refine (ZlszRecS.calls _ _ l0 1048576 t455 _ ?side1 ?side2 A3.out).mono ?_); (case side1 => repeat (first | exact HR0.out | (with_reducible first | refine Kd.Qaa ?_ _ | refine Kd.Qz ?_ _ | refine Kd.Qab ?_))); (case side2 => exact HC0.out); rintro e w' ⟨rfl, ⟨nd, rfl⟩⟩; refine ⟨_, rfl, ?_⟩) | ((with_reducible refine gate_callee (f := 18) rfl ?_); refine Qat (some 19) rfl rfl Try.func18 (by kernel_rfl) rfl #[.slice A0 l0.length c0] rfl (by (try simp only [Qj4, Qj5, Qj6]); first | done | rfl | (simp only [Qj7, Qj8]; rfl)) ?_; (with_reducible refine (ZltoRecS.calls k _ _ l0 t456 _ ?side1 ?side2 A5.out).mono ?_); (case side1 => repeat (first | exact HR0.out | (with_reducible first | refine Kd.Qaa ?_ _ | refine Kd.Qz ?_ _ | refine Kd.Qab ?_))); (case side2 => exact HC0.out); rintro e w16 ⟨v457, rfl, ho0, hb⟩; refine ⟨_, rfl, ?_⟩; have n0_ := Qz.mk (Kd.Qan ho0 (Qp (by repeat (first | (with_reducible first | exact HB.out | apply Qc | apply Qa | apply Qb) | exact HB.out)))); have n1_ := Qz.mk (Qq (by repeat (first | (with_reducible first | exact HB.out | apply Qc | apply Qa | apply Qb) | exact HB.out)) hb); clear HB; have HO83 := n0_; have HB := n1_; clear n0_ n1_; (try clear hb); (try clear hb2); (try clear hk); (try clear hi); (try clear ho0); obtain ⟨Ao17, co17, eo17⟩ := Kd.R_slice HO83.out; subst eo17) | ((with_reducible refine gate_callee (f := 17) rfl ?_); refine Qat (some 21) rfl rfl Try.func17 (by kernel_rfl) rfl #[.slice Ao17 t456.length co17, .int .i64 a1] rfl (by (try simp only [Qj4, Qj5, Qj6]); first | done | rfl | (simp only [Qj7, Qj8]; rfl)) ?_; (with_reducible refine (ZsChainBack.calls k _ _ t456 a1 t76 t77 _ ?side1 ?side2 A6.out).mono ?_); (case side1 => repeat (first | exact (Kd.Qaj HO83.out).2.2 | (with_reducible first | refine Kd.Qaa ?_ _ | refine Kd.Qz ?_ _ | refine Kd.Qab ?_))); (case side2 => exact (Kd.Qaj HO83.out).2.1); rintro e w18 ⟨v461, rfl, ho0, hb⟩; refine ⟨_, rfl, ?_⟩; have n0_ := Qz.mk (Kd.Qy (by (with_reducible repeat (first | apply Kd.Qn | apply Kd.Qm | apply Kd.Qo)); exact HO83.out) hb); have n1_ := Qz.mk (Kd.Qan ho0 (Qp (by repeat (first | (with_reducible first | exact HB.out | apply Qc | apply Qa | apply Qb) | exact HB.out)))); have n2_ := Qz.mk (Qq (by repeat (first | (with_reducible first | exact HB.out | apply Qc | apply Qa | apply Qb) | exact HB.out)) hb); clear HO83; clear HB; have HO83 := n0_; have HO84 := n1_; have HB := n2_; clear n0_ n1_ n2_; (try clear hb); (try clear hb2); (try clear hk); (try clear hi); (try clear ho0)) | ((with_reducible refine gate_dst (N := 6) rfl ?_); refine box_event ?hg (N := 6) ?hd (cs := #[.int .i64 0, .slice none 0 0]) (t := 35) ?hr ?_; (case hd => rfl); (case hg => rfl); (case hr => first | (go_simp; done) | (go_simp; rfl)); intro gb72 hg w19 hbox hb; have n0_ := Qz.mk (Kd.Qy (by (with_reducible repeat (first | apply Kd.Qn | apply Kd.Qm | apply Kd.Qo)); exact HO83.out) hb); have n1_ := Qz.mk (Kd.Qy (by (with_reducible repeat (first | apply Kd.Qn | apply Kd.Qm | apply Kd.Qo)); exact HO84.out) hb); have n2_ := Qz.mk (Qq (by repeat (first | (with_reducible first | exact HB.out | apply Qc | apply Qa | apply Qb) | exact HB.out)) hb); have n3_ := Qz.mk (hbox); have n4_ := Qz.mk ((by rw [hg]; exact (Qp (by repeat (first | (with_reducible first | exact HB.out | apply Qc | apply Qa | apply Qb) | exact HB.out))) : w.heap.size ≤ gb72)); have n5_ := n4_; clear HO83; clear HO84; clear HB; have HO83 := n0_; have HO84 := n1_; have HB := n2_; have BK72 := n3_; have GW72 := n4_; have GE72 := n5_; clear n0_ n1_ n2_ n3_ n4_ n5_; clear hb hbox hg; obtain ⟨z20_0, z20_1, j20_0, j20_1⟩ := Lv.blks2 BK72.out; obtain ⟨Ao21, co21, eo21⟩ := Kd.R_slice HO84.out; subst eo21) | ((with_reducible refine gate_callee (f := 18) rfl ?_); refine Qat (some 23) rfl rfl Try.func18 (by kernel_rfl) rfl #[.slice A0 l0.length c0] rfl (by (try simp only [Qj4, Qj5, Qj6]); first | done | rfl | (simp only [Qj7, Qj8]; rfl)) ?_; (with_reducible refine (ZltoRecS.calls k _ _ l0 t81 _ ?side1 ?side2 A7.out).mono ?_); (case side1 => exact Kd.Qac HR0.out (by repeat (first | (with_reducible first | exact HB.out | apply Qc | apply Qa | apply Qb | refine Qd ?_ GE72.out) | exact HB.out))); (case side2 => exact HC0.out); rintro e w22 ⟨v465, rfl, ho0, hb⟩; refine ⟨_, rfl, ?_⟩; have n0_ := Qz.mk (Kd.R_elder' (by (with_reducible repeat (first | apply Kd.Qn | apply Kd.Qm | apply Kd.Qo)); exact (Kd.Qw (Kd.Qx (p := ⟨gb72, 1, none⟩) (Kd.Qx (p := ⟨gb72, 0, none⟩) (Kd.Qai HO83.out BK72.out (by decide)) (fun _ hk => hk.2) (.int .i64 t76)) (fun _ hk => hk.2) (.slice Ao21 t77.length co21)) (fun _ h_ => h_.1))) (Kd.Qah ho0) hb); have n1_ := Qz.mk (Kd.Qy (by (with_reducible repeat (first | apply Kd.Qn | apply Kd.Qm | apply Kd.Qo)); exact (Kd.Qw (Kd.Qx (p := ⟨gb72, 1, none⟩) (Kd.Qx (p := ⟨gb72, 0, none⟩) (Kd.Qai HO84.out BK72.out (by decide)) (fun _ hk => hk.2) (.int .i64 t76)) (fun _ hk => hk.2) (.slice Ao21 t77.length co21)) (fun _ h_ => h_.1))) hb); have n2_ := Qz.mk (Kd.Qan (Kd.Qal ho0 (Kd.R_lt (by (with_reducible repeat (first | apply Kd.Qn | apply Kd.Qm | apply Kd.Qo)); exact (Kd.Qw (Kd.Qx (p := ⟨gb72, 1, none⟩) (Kd.Qx (p := ⟨gb72, 0, none⟩) (Kd.Qai HO83.out BK72.out (by decide)) (fun _ hk => hk.2) (.int .i64 t76)) (fun _ hk => hk.2) (.slice Ao21 t77.length co21)) (fun _ h_ => h_.1))))) (Qp (by repeat (first | (with_reducible first | exact HB.out | apply Qc | apply Qa | apply Qb | refine Qd ?_ GE72.out) | exact HB.out)))); have n3_ := Qz.mk (Qi (g := gb72) (o := .cells #[.int .i64 t76, .slice Ao21 t77.length co21] 35 (0, 0)) (by (with_reducible repeat (first | refine Qe ?_ _ | refine Qg ?_ | refine Qf ?_ _)); refine Qk (cs := #[.int .i64 t76, .slice none 0 0]) ?_ 1 _ rfl; (with_reducible repeat (first | refine Qe ?_ _ | refine Qg ?_ | refine Qf ?_ _)); refine Qk (cs := #[.int .i64 0, .slice none 0 0]) ?_ 0 _ rfl; (with_reducible repeat (first | refine Qe ?_ _ | refine Qg ?_ | refine Qf ?_ _)); exact BK72.out) hb); have n4_ := Qz.mk (Qq (by repeat (first | (with_reducible first | exact HB.out | apply Qc | apply Qa | apply Qb | refine Qd ?_ GE72.out) | exact HB.out)) hb); clear HO83; clear HO84; clear BK72; clear HB; have HO83 := n0_; have HO84 := n1_; have HO85 := n2_; have BK72 := n3_; have HB := n4_; clear n0_ n1_ n2_ n3_ n4_; (try clear hb); (try clear hb2); (try clear hk); (try clear hi); (try clear ho0); obtain ⟨Ao23, co23, eo23⟩ := Kd.R_slice HO85.out; subst eo23) | ((with_reducible refine gate_callee (f := 19) rfl ?_); refine Qat (some 26) rfl rfl Try.func19 (by kernel_rfl) rfl #[.slice Ao23 t81.length co23, .int .i64 a1] rfl (by (try simp only [Qj4, Qj5, Qj6]); first | done | rfl | (simp only [Qj7, Qj8]; rfl)) ?_; (with_reducible refine (ZiChainBack.calls k _ _ t81 a1 t73 t79 _ ?side1 ?side2 A8.out).mono ?_); (case side1 => repeat (first | exact (Kd.Qaj HO85.out).2.2 | (with_reducible first | refine Kd.Qaa ?_ _ | refine Kd.Qz ?_ _ | refine Kd.Qab ?_))); (case side2 => exact (Kd.Qaj HO85.out).2.1); rintro e w24 ⟨v469, rfl, ho0, hb⟩; refine ⟨_, rfl, ?_⟩; have n0_ := Qz.mk (Kd.Qy (by (with_reducible repeat (first | apply Kd.Qn | apply Kd.Qm | apply Kd.Qo)); exact HO83.out) hb); have n1_ := Qz.mk (Kd.R_elder' (by (with_reducible repeat (first | apply Kd.Qn | apply Kd.Qm | apply Kd.Qo)); exact HO84.out) (Kd.Qah ho0) hb); have n2_ := Qz.mk (Kd.Qy (by (with_reducible repeat (first | apply Kd.Qn | apply Kd.Qm | apply Kd.Qo)); exact HO85.out) hb); have n3_ := Qz.mk (Kd.Qan (Kd.Qal ho0 (Kd.R_lt (by (with_reducible repeat (first | apply Kd.Qn | apply Kd.Qm | apply Kd.Qo)); exact HO84.out))) (Qp (by repeat (first | (with_reducible first | exact HB.out | apply Qc | apply Qa | apply Qb | refine Qd ?_ GE72.out) | exact HB.out)))); have n4_ := Qz.mk (Qi (g := gb72) (o := .cells #[.int .i64 t76, .slice Ao21 t77.length co21] 35 (0, 0)) (by (with_reducible repeat (first | refine Qe ?_ _ | refine Qg ?_ | refine Qf ?_ _)); exact BK72.out) hb); have n5_ := Qz.mk (Qq (by repeat (first | (with_reducible first | exact HB.out | apply Qc | apply Qa | apply Qb | refine Qd ?_ GE72.out) | exact HB.out)) hb); clear HO83; clear HO84; clear HO85; clear BK72; clear HB; have HO83 := n0_; have HO84 := n1_; have HO85 := n2_; have HO87 := n3_; have BK72 := n4_; have HB := n5_; clear n0_ n1_ n2_ n3_ n4_ n5_; (try clear hb); (try clear hb2); (try clear hk); (try clear hi); (try clear ho0)) | ((with_reducible refine gate_dst (N := 8) rfl ?_); refine box_event ?hg (N := 8) ?hd (cs := #[.int .i64 0, .slice none 0 0]) (t := 35) ?hr ?_; (case hd => rfl); (case hg => rfl); (case hr => first | (go_simp; done) | (go_simp; rfl)); intro gb74 hg w25 hbox hb; have n0_ := Qz.mk (Kd.Qy (by (with_reducible repeat (first | apply Kd.Qn | apply Kd.Qm | apply Kd.Qo)); exact HO83.out) hb); have n1_ := Qz.mk (Kd.Qy (by (with_reducible repeat (first | apply Kd.Qn | apply Kd.Qm | apply Kd.Qo)); exact HO84.out) hb); have n2_ := Qz.mk (Kd.Qy (by (with_reducible repeat (first | apply Kd.Qn | apply Kd.Qm | apply Kd.Qo)); exact HO85.out) hb); have n3_ := Qz.mk (Kd.Qy (by (with_reducible repeat (first | apply Kd.Qn | apply Kd.Qm | apply Kd.Qo)); exact HO87.out) hb); have n4_ := Qz.mk (Qi (g := gb72) (o := .cells #[.int .i64 t76, .slice Ao21 t77.length co21] 35 (0, 0)) (by (with_reducible repeat (first | refine Qe ?_ _ | refine Qg ?_ | refine Qf ?_ _)); exact BK72.out) hb); have n5_ := Qz.mk (Qq (by repeat (first | (with_reducible first | exact HB.out | apply Qc | apply Qa | apply Qb | refine Qd ?_ GE72.out) | exact HB.out)) hb); have n6_ := Qz.mk (hbox); have n7_ := Qz.mk ((by rw [hg]; exact (Qp (by repeat (first | (with_reducible first | exact HB.out | apply Qc | apply Qa | apply Qb | refine Qd ?_ GE72.out) | exact HB.out))) : w.heap.size ≤ gb74)); have n8_ := n7_; have n9_ := Qz.mk ((by rw [hg]; exact Nat.ne_of_lt (Ql (g := gb72) (o := .cells #[.int .i64 t76, .slice Ao21 t77.length co21] 35 (0, 0)) (by (with_reducible repeat (first | refine Qe ?_ _ | refine Qg ?_ | refine Qf ?_ _)); exact BK72.out)) : gb72 ≠ gb74)); have n10_ := Qz.mk ((by rw [hg]; exact Nat.ne_of_gt (Ql (g := gb72) (o := .cells #[.int .i64 t76, .slice Ao21 t77.length co21] 35 (0, 0)) (by (with_reducible repeat (first | refine Qe ?_ _ | refine Qg ?_ | refine Qf ?_ _)); exact BK72.out)) : gb74 ≠ gb72)); clear HO83; clear HO84; clear HO85; clear HO87; clear BK72; clear HB; have HO83 := n0_; have HO84 := n1_; have HO85 := n2_; have HO87 := n3_; have BK72 := n4_; have HB := n5_; have BK74 := n6_; have GW74 := n7_; have GE74 := n8_; have NB463_471 := n9_; have NB471_463 := n10_; clear n0_ n1_ n2_ n3_ n4_ n5_ n6_ n7_ n8_ n9_ n10_; clear hb hbox hg; have hnb26 := NB471_463.out; have hnc26 := NB463_471.out; obtain ⟨z27_0, z27_1, j27_0, j27_1⟩ := Lv.blks2 BK74.out; obtain ⟨Ao28, co28, eo28⟩ := Kd.R_slice HO87.out; subst eo28; obtain ⟨z29_0, z29_1, j29_0, j29_1⟩ := Lv.blks2 BK72.out) | ((with_reducible refine gate_callee (f := 20) rfl ?_); refine Qat (some 29) rfl rfl Try.func20 (by kernel_rfl) rfl #[.agg #[.int .i64 t73, .slice Ao28 t79.length co28], .agg #[.int .i64 t76, .slice Ao21 t77.length co21]] rfl (by (try simp only [Qj4, Qj5, Qj6]); first | done | rfl | (simp only [Qj7, Qj8]; rfl)) ?_; (with_reducible refine (ZleqIntsResult.calls k t73 _ _ t79 t76 _ _ t77 true _ ?side1 ?side2 ?side3 ?side4 A9.out).mono ?_); (case side1 => refine (Kd.Qaj (e := 2) (base := w.heap.size) (ok := fun k_ => (True ∧ some k_ ≠ (.slice Ao21 t77.length co21 : Value).ownBlock)) (n := t79.length) (c := co28) ?_).2.2; exact (by (with_reducible repeat (first | apply Kd.Qn | apply Kd.Qm | apply Kd.Qo)); exact (Kd.Qw (Kd.Qx (p := ⟨gb74, 1, none⟩) (Kd.Qx (p := ⟨gb74, 0, none⟩) (Kd.Qai HO87.out BK74.out (by decide)) (fun _ hk => hk.2) (.int .i64 t73)) (fun _ hk => hk.2) (.slice Ao28 t79.length co28)) (fun _ h_ => h_.1)))); (case side2 => exact (Kd.Qaj HO87.out).2.1); (case side3 => refine (Kd.Qaj (e := 2) (base := w.heap.size) (ok := fun k_ => (True ∧ some k_ ≠ (.slice Ao28 t79.length co28 : Value).ownBlock)) (n := t77.length) (c := co21) ?_).2.2; exact (by (with_reducible repeat (first | apply Kd.Qn | apply Kd.Qm | apply Kd.Qo)); exact (Kd.Qw (Kd.Qx (p := ⟨gb74, 1, none⟩) (Kd.Qx (p := ⟨gb74, 0, none⟩) (Kd.Qai HO84.out BK74.out (by decide)) (fun _ hk => hk.2) (.int .i64 t73)) (fun _ hk => hk.2) (.slice Ao28 t79.length co28)) (fun _ h_ => h_.1)))); (case side4 => exact (Kd.Qaj HO84.out).2.1); rintro e w30 ⟨rfl, hb⟩; refine ⟨_, rfl, ?_⟩; have n0_ := Qz.mk (Kd.Qy (by (with_reducible repeat (first | apply Kd.Qn | apply Kd.Qm | apply Kd.Qo)); exact (Kd.Qw (Kd.Qx (p := ⟨gb74, 1, none⟩) (Kd.Qx (p := ⟨gb74, 0, none⟩) (Kd.Qai HO83.out BK74.out (by decide)) (fun _ hk => hk.2) (.int .i64 t73)) (fun _ hk => hk.2) (.slice Ao28 t79.length co28)) (fun _ h_ => h_.1))) hb); have n1_ := Qz.mk (Kd.Qy (by (with_reducible repeat (first | apply Kd.Qn | apply Kd.Qm | apply Kd.Qo)); exact (Kd.Qw (Kd.Qx (p := ⟨gb74, 1, none⟩) (Kd.Qx (p := ⟨gb74, 0, none⟩) (Kd.Qai HO84.out BK74.out (by decide)) (fun _ hk => hk.2) (.int .i64 t73)) (fun _ hk => hk.2) (.slice Ao28 t79.length co28)) (fun _ h_ => h_.1))) hb); have n2_ := Qz.mk (Kd.Qy (by (with_reducible repeat (first | apply Kd.Qn | apply Kd.Qm | apply Kd.Qo)); exact (Kd.Qw (Kd.Qx (p := ⟨gb74, 1, none⟩) (Kd.Qx (p := ⟨gb74, 0, none⟩) (Kd.Qai HO85.out BK74.out (by decide)) (fun _ hk => hk.2) (.int .i64 t73)) (fun _ hk => hk.2) (.slice Ao28 t79.length co28)) (fun _ h_ => h_.1))) hb); have n3_ := Qz.mk (Kd.Qy (by (with_reducible repeat (first | apply Kd.Qn | apply Kd.Qm | apply Kd.Qo)); exact (Kd.Qw (Kd.Qx (p := ⟨gb74, 1, none⟩) (Kd.Qx (p := ⟨gb74, 0, none⟩) (Kd.Qai HO87.out BK74.out (by decide)) (fun _ hk => hk.2) (.int .i64 t73)) (fun _ hk => hk.2) (.slice Ao28 t79.length co28)) (fun _ h_ => h_.1))) hb); have n4_ := Qz.mk (Qi (g := gb72) (o := .cells #[.int .i64 t76, .slice Ao21 t77.length co21] 35 (0, 0)) (by (with_reducible repeat (first | refine Qe ?_ _ | refine Qg ?_ | refine Qf ?_ _)); refine blk_far ?_ NB463_471.out _; (with_reducible repeat (first | refine Qe ?_ _ | refine Qg ?_ | refine Qf ?_ _)); refine blk_far ?_ NB463_471.out _; (with_reducible repeat (first | refine Qe ?_ _ | refine Qg ?_ | refine Qf ?_ _)); exact BK72.out) hb); have n5_ := Qz.mk (Qi (g := gb74) (o := .cells #[.int .i64 t73, .slice Ao28 t79.length co28] 35 (0, 0)) (by (with_reducible repeat (first | refine Qe ?_ _ | refine Qg ?_ | refine Qf ?_ _)); refine Qk (cs := #[.int .i64 t73, .slice none 0 0]) ?_ 1 _ rfl; (with_reducible repeat (first | refine Qe ?_ _ | refine Qg ?_ | refine Qf ?_ _)); refine Qk (cs := #[.int .i64 0, .slice none 0 0]) ?_ 0 _ rfl; (with_reducible repeat (first | refine Qe ?_ _ | refine Qg ?_ | refine Qf ?_ _)); exact BK74.out) hb); have n6_ := Qz.mk (Qq (by repeat (first | (with_reducible first | exact HB.out | apply Qc | apply Qa | apply Qb | refine Qd ?_ GE72.out | refine Qd ?_ GE74.out) | exact HB.out)) hb); clear HO83; clear HO84; clear HO85; clear HO87; clear BK72; clear BK74; clear HB; have HO83 := n0_; have HO84 := n1_; have HO85 := n2_; have HO87 := n3_; have BK72 := n4_; have BK74 := n5_; have HB := n6_; clear n0_ n1_ n2_ n3_ n4_ n5_ n6_; (try clear hb); (try clear hb2); (try clear hk); (try clear hi)) | ((with_reducible refine gate_callee (f := 18) rfl ?_); refine Qat (some 33) rfl rfl Try.func18 (by kernel_rfl) rfl #[.slice A0 l0.length c0] rfl (by (try simp only [Qj4, Qj5, Qj6]); first | done | rfl | (simp only [Qj7, Qj8]; rfl)) ?_; (with_reducible refine (ZltoRecS.calls k _ _ l0 t93 _ ?side1 ?side2 A11.out).mono ?_); (case side1 => repeat (first | exact (Kd.Qac HR0.out HB.out) | (with_reducible first | refine Kd.Qaa ?_ _ | refine Kd.Qz ?_ _ | refine Kd.Qab ?_))); (case side2 => exact HC0.out); rintro e w31 ⟨v474, rfl, ho0, hb⟩; refine ⟨_, rfl, ?_⟩; have n0_ := Qz.mk (Kd.R_elder' (by (with_reducible repeat (first | apply Kd.Qn | apply Kd.Qm | apply Kd.Qo)); exact HO83.out) (Kd.Qah ho0) hb); have n1_ := Qz.mk (Kd.Qy (by (with_reducible repeat (first | apply Kd.Qn | apply Kd.Qm | apply Kd.Qo)); exact HO84.out) hb); have n2_ := Qz.mk (Kd.R_elder' (by (with_reducible repeat (first | apply Kd.Qn | apply Kd.Qm | apply Kd.Qo)); exact HO85.out) (Kd.Qah ho0) hb); have n3_ := Qz.mk (Kd.Qy (by (with_reducible repeat (first | apply Kd.Qn | apply Kd.Qm | apply Kd.Qo)); exact HO87.out) hb); have n4_ := Qz.mk (Kd.Qan (Kd.Qal (Kd.Qal ho0 (Kd.R_lt (by (with_reducible repeat (first | apply Kd.Qn | apply Kd.Qm | apply Kd.Qo)); exact HO83.out))) (Kd.R_lt (by (with_reducible repeat (first | apply Kd.Qn | apply Kd.Qm | apply Kd.Qo)); exact HO85.out))) (Qp (by repeat (first | (with_reducible first | exact HB.out | apply Qc | apply Qa | apply Qb | refine Qd ?_ GE72.out | refine Qd ?_ GE74.out) | exact HB.out)))); have n5_ := Qz.mk (Qi (g := gb72) (o := .cells #[.int .i64 t76, .slice Ao21 t77.length co21] 35 (0, 0)) (by (with_reducible repeat (first | refine Qe ?_ _ | refine Qg ?_ | refine Qf ?_ _)); exact BK72.out) hb); have n6_ := Qz.mk (Qi (g := gb74) (o := .cells #[.int .i64 t73, .slice Ao28 t79.length co28] 35 (0, 0)) (by (with_reducible repeat (first | refine Qe ?_ _ | refine Qg ?_ | refine Qf ?_ _)); exact BK74.out) hb); have n7_ := Qz.mk (Qq (by repeat (first | (with_reducible first | exact HB.out | apply Qc | apply Qa | apply Qb | refine Qd ?_ GE72.out | refine Qd ?_ GE74.out) | exact HB.out)) hb); clear HO83; clear HO84; clear HO85; clear HO87; clear BK72; clear BK74; clear HB; have HO83 := n0_; have HO84 := n1_; have HO85 := n2_; have HO87 := n3_; have HO475 := n4_; have BK72 := n5_; have BK74 := n6_; have HB := n7_; clear n0_ n1_ n2_ n3_ n4_ n5_ n6_ n7_; (try clear hb); (try clear hb2); (try clear hk); (try clear hi); (try clear ho0); obtain ⟨Ao32, co32, eo32⟩ := Kd.R_slice HO475.out; subst eo32) | ((with_reducible refine gate_callee (f := 21) rfl ?_); refine Qat (some 34) rfl rfl Try.func21 (by kernel_rfl) rfl #[.slice Ao23 t81.length co23, .slice Ao32 t93.length co32] rfl (by (try simp only [Qj4, Qj5, Qj6]); first | done | rfl | (simp only [Qj7, Qj8]; rfl)) ?_; (with_reducible refine (ZleqRecS.calls k _ _ t81 _ _ t93 true _ ?side1 ?side2 ?side3 ?side4 A12.out).mono ?_); (case side1 => repeat (first | exact (Kd.Qaj HO85.out).2.2 | (with_reducible first | refine Kd.Qaa ?_ _ | refine Kd.Qz ?_ _ | refine Kd.Qab ?_))); (case side2 => exact (Kd.Qaj HO85.out).2.1); (case side3 => repeat (first | exact (Kd.Qaj HO475.out).2.2 | (with_reducible first | refine Kd.Qaa ?_ _ | refine Kd.Qz ?_ _ | refine Kd.Qab ?_))); (case side4 => exact (Kd.Qaj HO475.out).2.1); rintro e w33 ⟨rfl, hb⟩; refine ⟨_, rfl, ?_⟩; have n0_ := Qz.mk (Kd.Qy (by (with_reducible repeat (first | apply Kd.Qn | apply Kd.Qm | apply Kd.Qo)); exact HO83.out) hb); have n1_ := Qz.mk (Kd.Qy (by (with_reducible repeat (first | apply Kd.Qn | apply Kd.Qm | apply Kd.Qo)); exact HO84.out) hb); have n2_ := Qz.mk (Kd.Qy (by (with_reducible repeat (first | apply Kd.Qn | apply Kd.Qm | apply Kd.Qo)); exact HO85.out) hb); have n3_ := Qz.mk (Kd.Qy (by (with_reducible repeat (first | apply Kd.Qn | apply Kd.Qm | apply Kd.Qo)); exact HO87.out) hb); have n4_ := Qz.mk (Kd.Qy (by (with_reducible repeat (first | apply Kd.Qn | apply Kd.Qm | apply Kd.Qo)); exact HO475.out) hb); have n5_ := Qz.mk (Qi (g := gb72) (o := .cells #[.int .i64 t76, .slice Ao21 t77.length co21] 35 (0, 0)) (by (with_reducible repeat (first | refine Qe ?_ _ | refine Qg ?_ | refine Qf ?_ _)); exact BK72.out) hb); have n6_ := Qz.mk (Qi (g := gb74) (o := .cells #[.int .i64 t73, .slice Ao28 t79.length co28] 35 (0, 0)) (by (with_reducible repeat (first | refine Qe ?_ _ | refine Qg ?_ | refine Qf ?_ _)); exact BK74.out) hb); have n7_ := Qz.mk (Qq (by repeat (first | (with_reducible first | exact HB.out | apply Qc | apply Qa | apply Qb | refine Qd ?_ GE72.out | refine Qd ?_ GE74.out) | exact HB.out)) hb); clear HO83; clear HO84; clear HO85; clear HO87; clear HO475; clear BK72; clear BK74; clear HB; have HO83 := n0_; have HO84 := n1_; have HO85 := n2_; have HO87 := n3_; have HO475 := n4_; have BK72 := n5_; have BK74 := n6_; have HB := n7_; clear n0_ n1_ n2_ n3_ n4_ n5_ n6_ n7_; (try clear hb); (try clear hb2); (try clear hk); (try clear hi)) | ((with_reducible refine gate_callee (f := 22) rfl ?_); refine Qat (some 38) rfl rfl Try.func22 (by kernel_rfl) rfl #[.slice Ao23 t81.length co23, .int .i64 1] rfl (by (try simp only [Qj4, Qj5, Qj6]); first | done | rfl | (simp only [Qj7, Qj8]; rfl)) ?_; (with_reducible refine (ZlmarkRecS.calls k (fun k_ => some k_ = (.slice Ao23 t81.length co23 : Value).ownBlock) (.slice Ao23 t81.length co23) t81 1 t89 t478 w _ ?side1 ?side2 A14.out).mono ?_); (case side1 => repeat (first | (with_reducible first | exact HB.out | apply Qc | apply Qa | apply Qb | refine Qd ?_ GE72.out | refine Qd ?_ GE74.out) | exact HB.out)); (case side2 => exact Kd.R_tight rfl HO85.out); rintro e w34 ⟨rfl, hy0, hb, hkp⟩; refine ⟨_, rfl, ?_⟩; have n0_ := Qz.mk (Kd.Qw (ok' := fun k_ => some k_ ≠ (.slice Ao23 t81.length co23 : Value).ownBlock ∧ some k_ ≠ (.slice Ao32 t93.length co32 : Value).ownBlock) (Kd.Qao (HO83.out) hkp (fun k_ hk_ hs_ => (hk_.1.2) hs_)) (fun k_ hk_ => ⟨hk_.1.1.2, hk_.1.2⟩)); have n1_ := Qz.mk (Kd.Qw (ok' := fun k_ => some k_ ≠ (.slice Ao28 t79.length co28 : Value).ownBlock) (Kd.Qao ((Kd.R_apart' HO84.out (Kd.R_typed HO85.out) (by decide))) hkp (fun k_ hk_ hs_ => (hk_.2) hs_)) (fun k_ hk_ => hk_.1.1.2)); have n2_ := Qz.mk (blk_kept (by (with_reducible repeat (first | refine Qe ?_ _ | refine Qg ?_ | refine Qf ?_ _)); exact BK72.out) hkp (fun hs_ => (fun e_ => (Kd.R_ne HO85.out BK72.out (by decide)) e_) hs_)); have n3_ := Qz.mk (Kd.R_reok rfl hy0 (fun k_ e_ => HO85.out.1 k_ e_)); have n4_ := Qz.mk (Kd.Qw (ok' := fun k_ => some k_ ≠ (.slice Ao21 t77.length co21 : Value).ownBlock) (Kd.Qao ((Kd.R_apart' HO87.out (Kd.R_typed HO85.out) (by decide))) hkp (fun k_ hk_ hs_ => (hk_.2) hs_)) (fun k_ hk_ => hk_.1.1.2)); have n5_ := Qz.mk (blk_kept (by (with_reducible repeat (first | refine Qe ?_ _ | refine Qg ?_ | refine Qf ?_ _)); exact BK74.out) hkp (fun hs_ => (fun e_ => (Kd.R_ne HO85.out BK74.out (by decide)) e_) hs_)); have n6_ := Qz.mk (Kd.Qw (ok' := fun k_ => some k_ ≠ (.slice Ao17 t456.length co17 : Value).ownBlock ∧ some k_ ≠ (.slice Ao23 t81.length co23 : Value).ownBlock) (Kd.Qao (HO475.out) hkp (fun k_ hk_ hs_ => (hk_.2) hs_)) (fun k_ hk_ => ⟨hk_.1.1.2, hk_.1.2⟩)); have n7_ := Qz.mk (hb); clear HO83; clear HO84; clear BK72; clear HO85; clear HO87; clear BK74; clear HO475; clear HB; have HO83 := n0_; have HO84 := n1_; have BK72 := n2_; have HO85 := n3_; have HO87 := n4_; have BK74 := n5_; have HO475 := n6_; have HB := n7_; clear n0_ n1_ n2_ n3_ n4_ n5_ n6_ n7_; (try clear hb); (try clear hkp); (try clear hy0)))
   (try simp only [Act.put, Qj1, Qj2, Qj3])
   go_cut [46] (fun v46 wc => ∃ (kq : Nat) (x46_14 : Bool), v46 = .bool x46_14 ∧ Qz (ZlFnExactChainBack.j0 kq l0 a1 x46_14 t76 t77 t73 t79 = some true) ∧ Qz (kq ≤ k) ∧ Qz (Kd.R (Kd.int .i64) 2 wc w.heap.size (fun k_ => some k_ ≠ ((.slice Ao28 t79.length co28) : Value).ownBlock) (.slice Ao21 t77.length co21) t77) ∧ Qz (Kd.R (Kd.int .i64) 2 wc w.heap.size (fun k_ => some k_ ≠ ((.slice Ao21 t77.length co21) : Value).ownBlock) (.slice Ao28 t79.length co28) t79) ∧ Qz (wc.heap[gb72]? = some (.cells #[.int .i64 t76, (.slice Ao21 t77.length co21)] 35 (0, 0))) ∧ Qz (wc.heap[gb74]? = some (.cells #[.int .i64 t73, (.slice Ao28 t79.length co28)] 35 (0, 0))) ∧ Qz (Below w.heap.size w wc))
   case first =>
    have H := HC15.out
    clear HC15
    by_cases c35 : t89 < 0
    ·rw [if_pos c35] at H
     have c35b0 : decide (t89 < 0) = true := decide_eq_true c35
     clear c35
     (first | rw [c35b0] | (simp only [Qar, Qas]; rw [c35b0]) | skip)
     have H' := Qz.mk H
     clear H
     go_wp2
     go_meet
     case rel => exact ⟨_, (true), (by first | rfl | (simp; done) | (simp [*]; done)), H', ⟨by first | omega | exact Nat.le_refl _⟩, ⟨by (with_reducible repeat (first | apply Kd.Qn | apply Kd.Qm | apply Kd.Qo)); exact HO84.out⟩, ⟨by (with_reducible repeat (first | apply Kd.Qn | apply Kd.Qm | apply Kd.Qo)); exact HO87.out⟩, ⟨by (with_reducible repeat (first | refine Qe ?_ _ | refine Qg ?_ | refine Qf ?_ _)); exact BK72.out⟩, ⟨by (with_reducible repeat (first | refine Qe ?_ _ | refine Qg ?_ | refine Qf ?_ _)); exact BK74.out⟩, ⟨by repeat (first | (with_reducible first | exact HB.out | apply Qc | apply Qa | apply Qb | refine Qd ?_ GE72.out | refine Qd ?_ GE74.out) | exact HB.out)⟩⟩
    rw [if_neg c35] at H
    have c35b0 : decide (t89 < 0) = false := decide_eq_false c35
    clear c35
    (first | rw [c35b0] | (simp only [Qar, Qas]; rw [c35b0]) | skip)
    replace H := Qj9 H
    obtain ⟨t91, A360, H⟩ := H
    replace H : (ZlFnExactChainBack.j0 k l0 a1 (!t91) t76 t77 t73 t79) = some true := H
    have A36 := Qz.mk A360
    clear A360
    have H' := Qz.mk H
    clear H
    have hnb37 := NB471_463.out
    have hnc37 := NB463_471.out
    obtain ⟨z38_0, z38_1, j38_0, j38_1⟩ := Lv.blks2 BK74.out
    obtain ⟨z39_0, z39_1, j39_0, j39_1⟩ := Lv.blks2 BK72.out
    go_wp2_with (first | (go_at_call 20; (with_reducible refine (ZleqIntsResult.calls k t73 _ _ t79 t76 _ _ t77 t91 _ ?side1 ?side2 ?side3 ?side4 A36.out).mono ?_); (case side1 => repeat (first | exact (Kd.Qaj HO87.out).2.2 | (with_reducible first | refine Kd.Qaa ?_ _ | refine Kd.Qz ?_ _ | refine Kd.Qab ?_))); (case side2 => exact (Kd.Qaj HO87.out).2.1); (case side3 => repeat (first | exact (Kd.Qaj HO84.out).2.2 | (with_reducible first | refine Kd.Qaa ?_ _ | refine Kd.Qz ?_ _ | refine Kd.Qab ?_))); (case side4 => exact (Kd.Qaj HO84.out).2.1); rintro e w40 ⟨rfl, hb⟩; have n0_ := Qz.mk (Kd.Qy (by (with_reducible repeat (first | apply Kd.Qn | apply Kd.Qm | apply Kd.Qo)); exact HO83.out) hb); have n1_ := Qz.mk (Kd.Qy (by (with_reducible repeat (first | apply Kd.Qn | apply Kd.Qm | apply Kd.Qo)); exact HO84.out) hb); have n2_ := Qz.mk (Kd.Qy (by (with_reducible repeat (first | apply Kd.Qn | apply Kd.Qm | apply Kd.Qo)); exact HO85.out) hb); have n3_ := Qz.mk (Kd.Qy (by (with_reducible repeat (first | apply Kd.Qn | apply Kd.Qm | apply Kd.Qo)); exact HO87.out) hb); have n4_ := Qz.mk (Kd.Qy (by (with_reducible repeat (first | apply Kd.Qn | apply Kd.Qm | apply Kd.Qo)); exact HO475.out) hb); have n5_ := Qz.mk (Qi (g := gb72) (o := .cells #[.int .i64 t76, .slice Ao21 t77.length co21] 35 (0, 0)) (by (with_reducible repeat (first | refine Qe ?_ _ | refine Qg ?_ | refine Qf ?_ _)); exact BK72.out) hb); have n6_ := Qz.mk (Qi (g := gb74) (o := .cells #[.int .i64 t73, .slice Ao28 t79.length co28] 35 (0, 0)) (by (with_reducible repeat (first | refine Qe ?_ _ | refine Qg ?_ | refine Qf ?_ _)); exact BK74.out) hb); have n7_ := Qz.mk (Qq (by repeat (first | (with_reducible first | exact HB.out | apply Qc | apply Qa | apply Qb | refine Qd ?_ GE72.out | refine Qd ?_ GE74.out) | exact HB.out)) hb); clear HO83; clear HO84; clear HO85; clear HO87; clear HO475; clear BK72; clear BK74; clear HB; have HO83 := n0_; have HO84 := n1_; have HO85 := n2_; have HO87 := n3_; have HO475 := n4_; have BK72 := n5_; have BK74 := n6_; have HB := n7_; clear n0_ n1_ n2_ n3_ n4_ n5_ n6_ n7_; (try clear hb); (try clear hb2); (try clear hk); (try clear hi)))
    go_meet
    case rel => exact ⟨_, (!t91), (by first | rfl | (simp; done) | (simp [*]; done)), H', ⟨by first | omega | exact Nat.le_refl _⟩, ⟨by (with_reducible repeat (first | apply Kd.Qn | apply Kd.Qm | apply Kd.Qo)); exact HO84.out⟩, ⟨by (with_reducible repeat (first | apply Kd.Qn | apply Kd.Qm | apply Kd.Qo)); exact HO87.out⟩, ⟨by (with_reducible repeat (first | refine Qe ?_ _ | refine Qg ?_ | refine Qf ?_ _)); exact BK72.out⟩, ⟨by (with_reducible repeat (first | refine Qe ?_ _ | refine Qg ?_ | refine Qf ?_ _)); exact BK74.out⟩, ⟨by repeat (first | (with_reducible first | exact HB.out | apply Qc | apply Qa | apply Qb | refine Qd ?_ GE72.out | refine Qd ?_ GE74.out) | exact HB.out)⟩⟩
   case rest =>
    clear HC15
    try clear c1
    try clear c2
    try clear p2
    try clear c3
    try clear c4
    try clear c4b0
    try clear c10
    try clear c13
    try clear c16
    try clear c17
    try clear c18
    try clear c19
    try clear c20
    try clear c21
    try clear c22
    try clear c26
    try clear c35
    try clear c35b0
    try clear c37
    try clear z20_0 z20_1
    try clear z27_0 z27_1
    try clear z29_0 z29_1
    try clear z38_0 z38_1
    try clear z39_0 z39_1
    try clear j20_0 j20_1
    try clear j27_0 j27_1
    try clear j29_0 j29_1
    try clear j38_0 j38_1
    try clear j39_0 j39_1
    obtain ⟨kq, x46_14, rfl, HA, HJ14, HO_75, HO_71, BK72, BK74, HB⟩ := hcut
    cases kq with
    | zero => exact absurd HA.out (by simp [ZlFnExactChainBack.j0])
    | succ kj14 =>
     have H := HA.out
     clear HA
     simp only [ZlFnExactChainBack.j0] at H
     by_cases c41 : x46_14 = true
     ·subst c41
      have H1 : (some false) = some true := by rw [if_pos rfl] at H; first | done | exact H
      clear H
      have H := H1
      clear H1
      exact absurd H (by simp)
     replace c41 := Bool.eq_false_iff.mpr c41
     subst c41
     have H1 : ((ZlmarkIntsResult.f kj14 t73 t79 1).bind fun bt88 => ((ZlheldIntsResult.f kj14 t73 bt88.2 1).bind fun t95 => (if t95 < 0 then (some false) else (if t95 = bt88.1 then ((ZltoRecS.f kj14 l0).bind fun t483 => ((ZiChainBack.f kj14 t483 a1).bind fun bt92 => ((ZleqIntsResult.f kj14 bt92.1 bt92.2 t76 t77).bind fun t491 => (if t491 = true then ((ZlheldIntsResult.f kj14 t73 bt88.2 1).bind fun t86 => (if t86 < 0 then (some false) else (if t86 = bt88.1 then (some true) else (some false)))) else (some false))))) else (some false))))) = some true := by rw [if_neg (show ¬ (false = true) by decide)] at H; first | done | exact H
     clear H
     have H := H1
     clear H1
     replace H := Qj9 H
     obtain ⟨⟨t88, t96⟩, A420, H⟩ := H
     replace H : ((ZlheldIntsResult.f kj14 t73 t96 1).bind fun t95 => (if t95 < 0 then (some false) else (if t95 = t88 then ((ZltoRecS.f kj14 l0).bind fun t483 => ((ZiChainBack.f kj14 t483 a1).bind fun bt92 => ((ZleqIntsResult.f kj14 bt92.1 bt92.2 t76 t77).bind fun t491 => (if t491 = true then ((ZlheldIntsResult.f kj14 t73 t96 1).bind fun t86 => (if t86 < 0 then (some false) else (if t86 = t88 then (some true) else (some false)))) else (some false))))) else (some false)))) = some true := H
     have A42 := Qz.mk A420
     clear A420
     replace H := Qj9 H
     obtain ⟨t95, A430, H⟩ := H
     replace H : (if t95 < 0 then (some false) else (if t95 = t88 then ((ZltoRecS.f kj14 l0).bind fun t483 => ((ZiChainBack.f kj14 t483 a1).bind fun bt92 => ((ZleqIntsResult.f kj14 bt92.1 bt92.2 t76 t77).bind fun t491 => (if t491 = true then ((ZlheldIntsResult.f kj14 t73 t96 1).bind fun t86 => (if t86 < 0 then (some false) else (if t86 = t88 then (some true) else (some false)))) else (some false))))) else (some false))) = some true := H
     have A43 := Qz.mk A430
     clear A430
     by_cases c44 : t95 < 0
     ·rw [if_pos c44] at H
      have c44b0 : decide (t95 < 0) = true := decide_eq_true c44
      clear c44
      exact absurd H (by simp)
     rw [if_neg c44] at H
     have c44b0 : decide (t95 < 0) = false := decide_eq_false c44
     clear c44
     by_cases c45 : t95 = t88
     ·rw [if_pos c45] at H
      have c45b0 : (t95 == t88) = true := beq_iff_eq.mpr c45
      have c45b1 : (t95 != t88) = false := bne_eq_false_iff_eq.mpr c45
      clear c45
      replace H := Qj9 H
      obtain ⟨t483, A77, H⟩ := H
      replace H : ((ZiChainBack.f kj14 t483 a1).bind fun bt92 => ((ZleqIntsResult.f kj14 bt92.1 bt92.2 t76 t77).bind fun t491 => (if t491 = true then ((ZlheldIntsResult.f kj14 t73 t96 1).bind fun t86 => (if t86 < 0 then (some false) else (if t86 = t88 then (some true) else (some false)))) else (some false)))) = some true := H
      have A46 := Qz.mk A77
      clear A77
      replace H := Qj9 H
      obtain ⟨⟨t92, t99⟩, A87, H⟩ := H
      replace H : ((ZleqIntsResult.f kj14 t92 t99 t76 t77).bind fun t491 => (if t491 = true then ((ZlheldIntsResult.f kj14 t73 t96 1).bind fun t86 => (if t86 < 0 then (some false) else (if t86 = t88 then (some true) else (some false)))) else (some false))) = some true := H
      have A47 := Qz.mk A87
      clear A87
      replace H := Qj9 H
      obtain ⟨t491, A88, H⟩ := H
      replace H : (if t491 = true then ((ZlheldIntsResult.f kj14 t73 t96 1).bind fun t86 => (if t86 < 0 then (some false) else (if t86 = t88 then (some true) else (some false)))) else (some false)) = some true := H
      have A48 := Qz.mk A88
      clear A88
      by_cases c49 : t491 = true
      ·subst c49
       have H1 : ((ZlheldIntsResult.f kj14 t73 t96 1).bind fun t86 => (if t86 < 0 then (some false) else (if t86 = t88 then (some true) else (some false)))) = some true := by rw [if_pos rfl] at H; first | done | exact H
       clear H
       have H := H1
       clear H1
       replace H := Qj9 H
       obtain ⟨t86, A500, H⟩ := H
       replace H : (if t86 < 0 then (some false) else (if t86 = t88 then (some true) else (some false))) = some true := H
       have A50 := Qz.mk A500
       clear A500
       by_cases c51 : t86 < 0
       ·rw [if_pos c51] at H
        have c51b0 : decide (t86 < 0) = true := decide_eq_true c51
        clear c51
        exact absurd H (by simp)
       rw [if_neg c51] at H
       have c51b0 : decide (t86 < 0) = false := decide_eq_false c51
       clear c51
       by_cases c52 : t86 = t88
       ·rw [if_pos c52] at H
        have c52b0 : (t86 == t88) = true := beq_iff_eq.mpr c52
        have c52b1 : (t86 != t88) = false := bne_eq_false_iff_eq.mpr c52
        clear c52
        have hnb53 := NB471_463.out
        have hnc53 := NB463_471.out
        obtain ⟨z54_0, z54_1, j54_0, j54_1⟩ := Lv.blks2 BK74.out
        go_wp2_with (first | ((with_reducible refine gate_callee (f := 23) rfl ?_); refine Qat (some 49) rfl rfl Try.func23 (by kernel_rfl) rfl #[.agg #[.int .i64 t73, .slice Ao28 t79.length co28], .int .i64 1] rfl (by (try simp only [Qj4, Qj5, Qj6]); first | done | rfl | (simp only [Qj7, Qj8]; rfl)) ?_; (with_reducible refine (ZlmarkIntsResult.calls kj14 t73 (fun k_ => some k_ = (.slice Ao28 t79.length co28 : Value).ownBlock) (.slice Ao28 t79.length co28) t79 1 t88 t96 w _ ?side1 ?side2 A42.out).mono ?_); (case side1 => repeat (first | (with_reducible first | exact HB.out | apply Qc | apply Qa | apply Qb | refine Qd ?_ GE72.out | refine Qd ?_ GE74.out) | exact HB.out)); (case side2 => exact Kd.R_tight rfl HO_71.out); rintro e w55 ⟨rfl, hy0, hb, hkp⟩; refine ⟨_, rfl, ?_⟩; have n0_ := Qz.mk (Kd.Qw (ok' := fun k_ => some k_ ≠ (.slice Ao28 t79.length co28 : Value).ownBlock) (Kd.Qao (HO_75.out) hkp (fun k_ hk_ hs_ => (hk_) hs_)) (fun k_ hk_ => hk_.1)); have n1_ := Qz.mk (Kd.R_reok rfl hy0 (fun k_ e_ => HO_71.out.1 k_ e_)); have n2_ := Qz.mk (blk_kept (by (with_reducible repeat (first | refine Qe ?_ _ | refine Qg ?_ | refine Qf ?_ _)); exact BK72.out) hkp (fun hs_ => (fun e_ => (Kd.R_ne HO_71.out BK72.out (by decide)) e_) hs_)); have n3_ := Qz.mk (blk_kept (by (with_reducible repeat (first | refine Qe ?_ _ | refine Qg ?_ | refine Qf ?_ _)); exact BK74.out) hkp (fun hs_ => (fun e_ => (Kd.R_ne HO_71.out BK74.out (by decide)) e_) hs_)); have n4_ := Qz.mk (hb); clear HO_75; clear HO_71; clear BK72; clear BK74; clear HB; have HO_75 := n0_; have HO_71 := n1_; have BK72 := n2_; have BK74 := n3_; have HB := n4_; clear n0_ n1_ n2_ n3_ n4_; (try clear hb); (try clear hkp); (try clear hy0); obtain ⟨z56_0, z56_1, j56_0, j56_1⟩ := Lv.blks2 BK74.out) | ((with_reducible refine gate_callee (f := 24) rfl ?_); refine Qat (some 52) rfl rfl Try.func24 (by kernel_rfl) rfl #[.agg #[.int .i64 t73, .slice Ao28 t96.length co28], .int .i64 1] rfl (by (try simp only [Qj4, Qj5, Qj6]); first | done | (rw [show t96.length = t79.length from (Kd.Qaj HO_71.out).1.symm] <;> rfl) | rfl | (simp only [Qj7, Qj8]; rfl)) ?_; (with_reducible refine (ZlheldIntsResult.calls kj14 t73 _ _ t96 1 t95 _ ?side1 ?side2 A43.out).mono ?_); (case side1 => repeat (first | exact (Kd.Qaj HO_71.out).2.2 | (with_reducible first | refine Kd.Qaa ?_ _ | refine Kd.Qz ?_ _ | refine Kd.Qab ?_))); (case side2 => rw [show t96.length = t79.length from (Kd.Qaj HO_71.out).1.symm]; exact (Kd.Qaj HO_71.out).2.1); rintro e w57 ⟨rfl, hb⟩; refine ⟨_, rfl, ?_⟩; have n0_ := Qz.mk (Kd.Qy (by (with_reducible repeat (first | apply Kd.Qn | apply Kd.Qm | apply Kd.Qo)); exact HO_75.out) hb); have n1_ := Qz.mk (Kd.Qy (by (with_reducible repeat (first | apply Kd.Qn | apply Kd.Qm | apply Kd.Qo)); exact HO_71.out) hb); have n2_ := Qz.mk (Qi (g := gb72) (o := .cells #[.int .i64 t76, .slice Ao21 t77.length co21] 35 (0, 0)) (by (with_reducible repeat (first | refine Qe ?_ _ | refine Qg ?_ | refine Qf ?_ _)); exact BK72.out) hb); have n3_ := Qz.mk (Qi (g := gb74) (o := .cells #[.int .i64 t73, .slice Ao28 t79.length co28] 35 (0, 0)) (by (with_reducible repeat (first | refine Qe ?_ _ | refine Qg ?_ | refine Qf ?_ _)); exact BK74.out) hb); have n4_ := Qz.mk (Qq (by repeat (first | (with_reducible first | exact HB.out | apply Qc | apply Qa | apply Qb | refine Qd ?_ GE72.out | refine Qd ?_ GE74.out) | exact HB.out)) hb); clear HO_75; clear HO_71; clear BK72; clear BK74; clear HB; have HO_75 := n0_; have HO_71 := n1_; have BK72 := n2_; have BK74 := n3_; have HB := n4_; clear n0_ n1_ n2_ n3_ n4_; (try clear hb); (try clear hb2); (try clear hk); (try clear hi)) | ((with_reducible refine gate_callee (f := 18) rfl ?_); refine Qat (some 59) rfl rfl Try.func18 (by kernel_rfl) rfl #[.slice A0 l0.length c0] rfl (by (try simp only [Qj4, Qj5, Qj6]); first | done | rfl | (simp only [Qj7, Qj8]; rfl)) ?_; (with_reducible refine (ZltoRecS.calls kj14 _ _ l0 t483 _ ?side1 ?side2 A46.out).mono ?_); (case side1 => repeat (first | exact (Kd.Qac HR0.out HB.out) | (with_reducible first | refine Kd.Qaa ?_ _ | refine Kd.Qz ?_ _ | refine Kd.Qab ?_))); (case side2 => exact HC0.out); rintro e w58 ⟨v484, rfl, ho0, hb⟩; refine ⟨_, rfl, ?_⟩; have n0_ := Qz.mk (Kd.Qy (by (with_reducible repeat (first | apply Kd.Qn | apply Kd.Qm | apply Kd.Qo)); exact HO_75.out) hb); have n1_ := Qz.mk (Kd.Qy (by (with_reducible repeat (first | apply Kd.Qn | apply Kd.Qm | apply Kd.Qo)); exact HO_71.out) hb); have n2_ := Qz.mk (Kd.Qan ho0 (Qp (by repeat (first | (with_reducible first | exact HB.out | apply Qc | apply Qa | apply Qb | refine Qd ?_ GE72.out | refine Qd ?_ GE74.out) | exact HB.out)))); have n3_ := Qz.mk (Qi (g := gb72) (o := .cells #[.int .i64 t76, .slice Ao21 t77.length co21] 35 (0, 0)) (by (with_reducible repeat (first | refine Qe ?_ _ | refine Qg ?_ | refine Qf ?_ _)); exact BK72.out) hb); have n4_ := Qz.mk (Qi (g := gb74) (o := .cells #[.int .i64 t73, .slice Ao28 t79.length co28] 35 (0, 0)) (by (with_reducible repeat (first | refine Qe ?_ _ | refine Qg ?_ | refine Qf ?_ _)); exact BK74.out) hb); have n5_ := Qz.mk (Qq (by repeat (first | (with_reducible first | exact HB.out | apply Qc | apply Qa | apply Qb | refine Qd ?_ GE72.out | refine Qd ?_ GE74.out) | exact HB.out)) hb); clear HO_75; clear HO_71; clear BK72; clear BK74; clear HB; have HO_75 := n0_; have HO_71 := n1_; have HO97 := n2_; have BK72 := n3_; have BK74 := n4_; have HB := n5_; clear n0_ n1_ n2_ n3_ n4_ n5_; (try clear hb); (try clear hb2); (try clear hk); (try clear hi); (try clear ho0); obtain ⟨Ao59, co59, eo59⟩ := Kd.R_slice HO97.out; subst eo59) | ((with_reducible refine gate_callee (f := 19) rfl ?_); refine Qat (some 61) rfl rfl Try.func19 (by kernel_rfl) rfl #[.slice Ao59 t483.length co59, .int .i64 a1] rfl (by (try simp only [Qj4, Qj5, Qj6]); first | done | rfl | (simp only [Qj7, Qj8]; rfl)) ?_; (with_reducible refine (ZiChainBack.calls kj14 _ _ t483 a1 t92 t99 _ ?side1 ?side2 A47.out).mono ?_); (case side1 => repeat (first | exact (Kd.Qaj HO97.out).2.2 | (with_reducible first | refine Kd.Qaa ?_ _ | refine Kd.Qz ?_ _ | refine Kd.Qab ?_))); (case side2 => exact (Kd.Qaj HO97.out).2.1); rintro e w60 ⟨v488, rfl, ho0, hb⟩; refine ⟨_, rfl, ?_⟩; have n0_ := Qz.mk (Kd.R_elder' (by (with_reducible repeat (first | apply Kd.Qn | apply Kd.Qm | apply Kd.Qo)); exact HO_75.out) (Kd.Qah ho0) hb); have n1_ := Qz.mk (Kd.R_elder' (by (with_reducible repeat (first | apply Kd.Qn | apply Kd.Qm | apply Kd.Qo)); exact HO_71.out) (Kd.Qah ho0) hb); have n2_ := Qz.mk (Kd.Qy (by (with_reducible repeat (first | apply Kd.Qn | apply Kd.Qm | apply Kd.Qo)); exact HO97.out) hb); have n3_ := Qz.mk (Kd.Qan (Kd.Qal (Kd.Qal ho0 (Kd.R_lt (by (with_reducible repeat (first | apply Kd.Qn | apply Kd.Qm | apply Kd.Qo)); exact HO_75.out))) (Kd.R_lt (by (with_reducible repeat (first | apply Kd.Qn | apply Kd.Qm | apply Kd.Qo)); exact HO_71.out))) (Qp (by repeat (first | (with_reducible first | exact HB.out | apply Qc | apply Qa | apply Qb | refine Qd ?_ GE72.out | refine Qd ?_ GE74.out) | exact HB.out)))); have n4_ := Qz.mk (Qi (g := gb72) (o := .cells #[.int .i64 t76, .slice Ao21 t77.length co21] 35 (0, 0)) (by (with_reducible repeat (first | refine Qe ?_ _ | refine Qg ?_ | refine Qf ?_ _)); exact BK72.out) hb); have n5_ := Qz.mk (Qi (g := gb74) (o := .cells #[.int .i64 t73, .slice Ao28 t79.length co28] 35 (0, 0)) (by (with_reducible repeat (first | refine Qe ?_ _ | refine Qg ?_ | refine Qf ?_ _)); exact BK74.out) hb); have n6_ := Qz.mk (Qq (by repeat (first | (with_reducible first | exact HB.out | apply Qc | apply Qa | apply Qb | refine Qd ?_ GE72.out | refine Qd ?_ GE74.out) | exact HB.out)) hb); clear HO_75; clear HO_71; clear HO97; clear BK72; clear BK74; clear HB; have HO_75 := n0_; have HO_71 := n1_; have HO97 := n2_; have HO489 := n3_; have BK72 := n4_; have BK74 := n5_; have HB := n6_; clear n0_ n1_ n2_ n3_ n4_ n5_ n6_; (try clear hb); (try clear hb2); (try clear hk); (try clear hi); (try clear ho0)) | ((with_reducible refine gate_dst (N := 12) rfl ?_); refine box_event ?hg (N := 12) ?hd (cs := #[.int .i64 0, .slice none 0 0]) (t := 35) ?hr ?_; (case hd => rfl); (case hg => rfl); (case hr => first | (go_simp; done) | (go_simp; rfl)); intro gb82 hg w61 hbox hb; have n0_ := Qz.mk (Kd.Qy (by (with_reducible repeat (first | apply Kd.Qn | apply Kd.Qm | apply Kd.Qo)); exact HO_75.out) hb); have n1_ := Qz.mk (Kd.Qy (by (with_reducible repeat (first | apply Kd.Qn | apply Kd.Qm | apply Kd.Qo)); exact HO_71.out) hb); have n2_ := Qz.mk (Kd.Qy (by (with_reducible repeat (first | apply Kd.Qn | apply Kd.Qm | apply Kd.Qo)); exact HO97.out) hb); have n3_ := Qz.mk (Kd.Qy (by (with_reducible repeat (first | apply Kd.Qn | apply Kd.Qm | apply Kd.Qo)); exact HO489.out) hb); have n4_ := Qz.mk (Qi (g := gb72) (o := .cells #[.int .i64 t76, .slice Ao21 t77.length co21] 35 (0, 0)) (by (with_reducible repeat (first | refine Qe ?_ _ | refine Qg ?_ | refine Qf ?_ _)); exact BK72.out) hb); have n5_ := Qz.mk (Qi (g := gb74) (o := .cells #[.int .i64 t73, .slice Ao28 t79.length co28] 35 (0, 0)) (by (with_reducible repeat (first | refine Qe ?_ _ | refine Qg ?_ | refine Qf ?_ _)); exact BK74.out) hb); have n6_ := Qz.mk (Qq (by repeat (first | (with_reducible first | exact HB.out | apply Qc | apply Qa | apply Qb | refine Qd ?_ GE72.out | refine Qd ?_ GE74.out) | exact HB.out)) hb); have n7_ := Qz.mk (hbox); have n8_ := Qz.mk ((by rw [hg]; exact (Qp (by repeat (first | (with_reducible first | exact HB.out | apply Qc | apply Qa | apply Qb | refine Qd ?_ GE72.out | refine Qd ?_ GE74.out) | exact HB.out))) : w.heap.size ≤ gb82)); have n9_ := n8_; have n10_ := Qz.mk ((by rw [hg]; exact Nat.ne_of_lt (Ql (g := gb72) (o := .cells #[.int .i64 t76, .slice Ao21 t77.length co21] 35 (0, 0)) (by (with_reducible repeat (first | refine Qe ?_ _ | refine Qg ?_ | refine Qf ?_ _)); exact BK72.out)) : gb72 ≠ gb82)); have n11_ := Qz.mk ((by rw [hg]; exact Nat.ne_of_gt (Ql (g := gb72) (o := .cells #[.int .i64 t76, .slice Ao21 t77.length co21] 35 (0, 0)) (by (with_reducible repeat (first | refine Qe ?_ _ | refine Qg ?_ | refine Qf ?_ _)); exact BK72.out)) : gb82 ≠ gb72)); have n12_ := Qz.mk ((by rw [hg]; exact Nat.ne_of_lt (Ql (g := gb74) (o := .cells #[.int .i64 t73, .slice Ao28 t79.length co28] 35 (0, 0)) (by (with_reducible repeat (first | refine Qe ?_ _ | refine Qg ?_ | refine Qf ?_ _)); exact BK74.out)) : gb74 ≠ gb82)); have n13_ := Qz.mk ((by rw [hg]; exact Nat.ne_of_gt (Ql (g := gb74) (o := .cells #[.int .i64 t73, .slice Ao28 t79.length co28] 35 (0, 0)) (by (with_reducible repeat (first | refine Qe ?_ _ | refine Qg ?_ | refine Qf ?_ _)); exact BK74.out)) : gb82 ≠ gb74)); clear HO_75; clear HO_71; clear HO97; clear HO489; clear BK72; clear BK74; clear HB; have HO_75 := n0_; have HO_71 := n1_; have HO97 := n2_; have HO489 := n3_; have BK72 := n4_; have BK74 := n5_; have HB := n6_; have BK82 := n7_; have GW82 := n8_; have GE82 := n9_; have NB463_490 := n10_; have NB490_463 := n11_; have NB471_490 := n12_; have NB490_471 := n13_; clear n0_ n1_ n2_ n3_ n4_ n5_ n6_ n7_ n8_ n9_ n10_ n11_ n12_ n13_; clear hb hbox hg; have hnb62 := NB490_463.out; have hnc62 := NB463_490.out; have hnb63 := NB490_471.out; have hnc63 := NB471_490.out; obtain ⟨z64_0, z64_1, j64_0, j64_1⟩ := Lv.blks2 BK82.out; obtain ⟨Ao65, co65, eo65⟩ := Kd.R_slice HO489.out; subst eo65; obtain ⟨z66_0, z66_1, j66_0, j66_1⟩ := Lv.blks2 BK72.out) | ((with_reducible refine gate_callee (f := 20) rfl ?_); refine Qat (some 64) rfl rfl Try.func20 (by kernel_rfl) rfl #[.agg #[.int .i64 t92, .slice Ao65 t99.length co65], .agg #[.int .i64 t76, .slice Ao21 t77.length co21]] rfl (by (try simp only [Qj4, Qj5, Qj6]); first | done | rfl | (simp only [Qj7, Qj8]; rfl)) ?_; (with_reducible refine (ZleqIntsResult.calls kj14 t92 _ _ t99 t76 _ _ t77 true _ ?side1 ?side2 ?side3 ?side4 A48.out).mono ?_); (case side1 => refine (Kd.Qaj (e := 2) (base := w.heap.size) (ok := fun k_ => ((True ∧ some k_ ≠ (.slice Ao21 t77.length co21 : Value).ownBlock) ∧ some k_ ≠ (.slice Ao28 t79.length co28 : Value).ownBlock)) (n := t99.length) (c := co65) ?_).2.2; exact (by (with_reducible repeat (first | apply Kd.Qn | apply Kd.Qm | apply Kd.Qo)); exact (Kd.Qw (Kd.Qx (p := ⟨gb82, 1, none⟩) (Kd.Qx (p := ⟨gb82, 0, none⟩) (Kd.Qai HO489.out BK82.out (by decide)) (fun _ hk => hk.2) (.int .i64 t92)) (fun _ hk => hk.2) (.slice Ao65 t99.length co65)) (fun _ h_ => h_.1)))); (case side2 => exact (Kd.Qaj HO489.out).2.1); (case side3 => refine (Kd.Qaj (e := 2) (base := w.heap.size) (ok := fun k_ => (some k_ ≠ (.slice Ao28 t79.length co28 : Value).ownBlock ∧ some k_ ≠ (.slice Ao65 t99.length co65 : Value).ownBlock)) (n := t77.length) (c := co21) ?_).2.2; exact (by (with_reducible repeat (first | apply Kd.Qn | apply Kd.Qm | apply Kd.Qo)); exact (Kd.Qw (Kd.Qx (p := ⟨gb82, 1, none⟩) (Kd.Qx (p := ⟨gb82, 0, none⟩) (Kd.Qai HO_75.out BK82.out (by decide)) (fun _ hk => hk.2) (.int .i64 t92)) (fun _ hk => hk.2) (.slice Ao65 t99.length co65)) (fun _ h_ => h_.1)))); (case side4 => exact (Kd.Qaj HO_75.out).2.1); rintro e w67 ⟨rfl, hb⟩; refine ⟨_, rfl, ?_⟩; have n0_ := Qz.mk (Kd.Qy (by (with_reducible repeat (first | apply Kd.Qn | apply Kd.Qm | apply Kd.Qo)); exact (Kd.Qw (Kd.Qx (p := ⟨gb82, 1, none⟩) (Kd.Qx (p := ⟨gb82, 0, none⟩) (Kd.Qai HO_75.out BK82.out (by decide)) (fun _ hk => hk.2) (.int .i64 t92)) (fun _ hk => hk.2) (.slice Ao65 t99.length co65)) (fun _ h_ => h_.1))) hb); have n1_ := Qz.mk (Kd.Qy (by (with_reducible repeat (first | apply Kd.Qn | apply Kd.Qm | apply Kd.Qo)); exact (Kd.Qw (Kd.Qx (p := ⟨gb82, 1, none⟩) (Kd.Qx (p := ⟨gb82, 0, none⟩) (Kd.Qai HO_71.out BK82.out (by decide)) (fun _ hk => hk.2) (.int .i64 t92)) (fun _ hk => hk.2) (.slice Ao65 t99.length co65)) (fun _ h_ => h_.1))) hb); have n2_ := Qz.mk (Kd.Qy (by (with_reducible repeat (first | apply Kd.Qn | apply Kd.Qm | apply Kd.Qo)); exact (Kd.Qw (Kd.Qx (p := ⟨gb82, 1, none⟩) (Kd.Qx (p := ⟨gb82, 0, none⟩) (Kd.Qai HO97.out BK82.out (by decide)) (fun _ hk => hk.2) (.int .i64 t92)) (fun _ hk => hk.2) (.slice Ao65 t99.length co65)) (fun _ h_ => h_.1))) hb); have n3_ := Qz.mk (Kd.Qy (by (with_reducible repeat (first | apply Kd.Qn | apply Kd.Qm | apply Kd.Qo)); exact (Kd.Qw (Kd.Qx (p := ⟨gb82, 1, none⟩) (Kd.Qx (p := ⟨gb82, 0, none⟩) (Kd.Qai HO489.out BK82.out (by decide)) (fun _ hk => hk.2) (.int .i64 t92)) (fun _ hk => hk.2) (.slice Ao65 t99.length co65)) (fun _ h_ => h_.1))) hb); have n4_ := Qz.mk (Qi (g := gb72) (o := .cells #[.int .i64 t76, .slice Ao21 t77.length co21] 35 (0, 0)) (by (with_reducible repeat (first | refine Qe ?_ _ | refine Qg ?_ | refine Qf ?_ _)); refine blk_far ?_ NB463_490.out _; (with_reducible repeat (first | refine Qe ?_ _ | refine Qg ?_ | refine Qf ?_ _)); refine blk_far ?_ NB463_490.out _; (with_reducible repeat (first | refine Qe ?_ _ | refine Qg ?_ | refine Qf ?_ _)); exact BK72.out) hb); have n5_ := Qz.mk (Qi (g := gb74) (o := .cells #[.int .i64 t73, .slice Ao28 t79.length co28] 35 (0, 0)) (by (with_reducible repeat (first | refine Qe ?_ _ | refine Qg ?_ | refine Qf ?_ _)); refine blk_far ?_ NB471_490.out _; (with_reducible repeat (first | refine Qe ?_ _ | refine Qg ?_ | refine Qf ?_ _)); refine blk_far ?_ NB471_490.out _; (with_reducible repeat (first | refine Qe ?_ _ | refine Qg ?_ | refine Qf ?_ _)); exact BK74.out) hb); have n6_ := Qz.mk (Qi (g := gb82) (o := .cells #[.int .i64 t92, .slice Ao65 t99.length co65] 35 (0, 0)) (by (with_reducible repeat (first | refine Qe ?_ _ | refine Qg ?_ | refine Qf ?_ _)); refine Qk (cs := #[.int .i64 t92, .slice none 0 0]) ?_ 1 _ rfl; (with_reducible repeat (first | refine Qe ?_ _ | refine Qg ?_ | refine Qf ?_ _)); refine Qk (cs := #[.int .i64 0, .slice none 0 0]) ?_ 0 _ rfl; (with_reducible repeat (first | refine Qe ?_ _ | refine Qg ?_ | refine Qf ?_ _)); exact BK82.out) hb); have n7_ := Qz.mk (Qq (by repeat (first | (with_reducible first | exact HB.out | apply Qc | apply Qa | apply Qb | refine Qd ?_ GE72.out | refine Qd ?_ GE74.out | refine Qd ?_ GE82.out) | exact HB.out)) hb); clear HO_75; clear HO_71; clear HO97; clear HO489; clear BK72; clear BK74; clear BK82; clear HB; have HO_75 := n0_; have HO_71 := n1_; have HO97 := n2_; have HO489 := n3_; have BK72 := n4_; have BK74 := n5_; have BK82 := n6_; have HB := n7_; clear n0_ n1_ n2_ n3_ n4_ n5_ n6_ n7_; (try clear hb); (try clear hb2); (try clear hk); (try clear hi); obtain ⟨z68_0, z68_1, j68_0, j68_1⟩ := Lv.blks2 BK74.out) | ((with_reducible refine gate_callee (f := 24) rfl ?_); refine Qat (some 68) rfl rfl Try.func24 (by kernel_rfl) rfl #[.agg #[.int .i64 t73, .slice Ao28 t96.length co28], .int .i64 1] rfl (by (try simp only [Qj4, Qj5, Qj6]); first | done | (rw [show t96.length = t79.length from (Kd.Qaj HO_71.out).1.symm] <;> rfl) | rfl | (simp only [Qj7, Qj8]; rfl)) ?_; (with_reducible refine (ZlheldIntsResult.calls kj14 t73 _ _ t96 1 t86 _ ?side1 ?side2 A50.out).mono ?_); (case side1 => repeat (first | exact (Kd.Qaj HO_71.out).2.2 | (with_reducible first | refine Kd.Qaa ?_ _ | refine Kd.Qz ?_ _ | refine Kd.Qab ?_))); (case side2 => rw [show t96.length = t79.length from (Kd.Qaj HO_71.out).1.symm]; exact (Kd.Qaj HO_71.out).2.1); rintro e w69 ⟨rfl, hb⟩; refine ⟨_, rfl, ?_⟩; have n0_ := Qz.mk (Kd.Qy (by (with_reducible repeat (first | apply Kd.Qn | apply Kd.Qm | apply Kd.Qo)); exact HO_75.out) hb); have n1_ := Qz.mk (Kd.Qy (by (with_reducible repeat (first | apply Kd.Qn | apply Kd.Qm | apply Kd.Qo)); exact HO_71.out) hb); have n2_ := Qz.mk (Kd.Qy (by (with_reducible repeat (first | apply Kd.Qn | apply Kd.Qm | apply Kd.Qo)); exact HO97.out) hb); have n3_ := Qz.mk (Kd.Qy (by (with_reducible repeat (first | apply Kd.Qn | apply Kd.Qm | apply Kd.Qo)); exact HO489.out) hb); have n4_ := Qz.mk (Qi (g := gb72) (o := .cells #[.int .i64 t76, .slice Ao21 t77.length co21] 35 (0, 0)) (by (with_reducible repeat (first | refine Qe ?_ _ | refine Qg ?_ | refine Qf ?_ _)); exact BK72.out) hb); have n5_ := Qz.mk (Qi (g := gb74) (o := .cells #[.int .i64 t73, .slice Ao28 t79.length co28] 35 (0, 0)) (by (with_reducible repeat (first | refine Qe ?_ _ | refine Qg ?_ | refine Qf ?_ _)); exact BK74.out) hb); have n6_ := Qz.mk (Qi (g := gb82) (o := .cells #[.int .i64 t92, .slice Ao65 t99.length co65] 35 (0, 0)) (by (with_reducible repeat (first | refine Qe ?_ _ | refine Qg ?_ | refine Qf ?_ _)); exact BK82.out) hb); have n7_ := Qz.mk (Qq (by repeat (first | (with_reducible first | exact HB.out | apply Qc | apply Qa | apply Qb | refine Qd ?_ GE72.out | refine Qd ?_ GE74.out | refine Qd ?_ GE82.out) | exact HB.out)) hb); clear HO_75; clear HO_71; clear HO97; clear HO489; clear BK72; clear BK74; clear BK82; clear HB; have HO_75 := n0_; have HO_71 := n1_; have HO97 := n2_; have HO489 := n3_; have BK72 := n4_; have BK74 := n5_; have BK82 := n6_; have HB := n7_; clear n0_ n1_ n2_ n3_ n4_ n5_ n6_ n7_; (try clear hb); (try clear hb2); (try clear hk); (try clear hi)))
        go_ret
        exact ⟨by first | rfl | (simp [Qv, Qu] <;> rfl) | (simp [*, Qv, Qu] <;> rfl), by repeat (first | (with_reducible first | exact HB.out | apply Qc | apply Qa | apply Qb | refine Qd ?_ GE72.out | refine Qd ?_ GE74.out | refine Qd ?_ GE82.out) | exact HB.out)⟩
       rw [if_neg c52] at H
       have c52b0 : (t86 == t88) = false := beq_eq_false_iff_ne.mpr c52
       have c52b1 : (t86 != t88) = true := bne_iff_ne.mpr c52
       exact absurd H (by simp)
      replace c49 := Bool.eq_false_iff.mpr c49
      subst c49
      have H1 : (some false) = some true := by rw [if_neg (show ¬ (false = true) by decide)] at H; first | done | exact H
      clear H
      have H := H1
      clear H1
      exact absurd H (by simp)
     rw [if_neg c45] at H
     have c45b0 : (t95 == t88) = false := beq_eq_false_iff_ne.mpr c45
     have c45b1 : (t95 != t88) = true := bne_iff_ne.mpr c45
     exact absurd H (by simp)
  replace c13 := Bool.eq_false_iff.mpr c13
  subst c13
  have H1 : (some false) = some true := by rw [if_neg (show ¬ (false = true) by decide)] at H; first | done | exact H
  clear H
  have H := H1
  clear H1
  exact absurd H (by simp)
 replace c10 := Bool.eq_false_iff.mpr c10
 subst c10
 have H1 : (some false) = some true := by rw [if_neg (show ¬ (false = true) by decide)] at H; first | done | exact H
 clear H
 have H := H1
 clear H1
 exact absurd H (by simp)
end Go.Proofs.Ythagppmaofcllaa.P
