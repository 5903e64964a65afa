import Derived.Test.YtonbnmaelepcbaaZz
import Derived.Test.YtonbnmaelepcbaaP0
import Derived.Test.YtonbnmaelepcbaaPCdgh0
import Derived.Test.YtonbnmaelepcbaaPDm1
import Derived.Test.YtonbnmaelepcbaaWRepsOne
import Derived.Test.YtonbnmaelepcbaaLv
import Derived.Test.YtonbnmaelepcbaaLv
namespace Go.Proofs.Ytonbnmaelepcbaa.P
open Go.RowKit Go.Proofs.YtonbnmaelepcbaaW.PrintWords Go.Proofs.YtonbnmaelepcbaaW.PrintLast Go.Proofs.YtonbnmaelepcbaaW.PrintMore
attribute [local go_sem] max2_int min2_int max_two min_two max_three min_three max_four min_four   -- for this text's walks alone
set_option linter.unusedVariables false
set_option linter.unusedSimpArgs false
set_option maxHeartbeats 8000000 in
set_option maxRecDepth 100000 in
theorem impl_seenValue.calls (A0 : Option Addr) (c0 : Nat) (l0 : List (S90)) (a1_0 : Int) (a1_1 : Int) (r1 : Int) (r2 : Int) (w : World) (hr0 : Kd.C k90 w A0 l0.length l0) (hc0 : l0.length ≤ c0) (h : impl_seenValue.f l0 a1_0 a1_1 = some (r1, r2)) :
 Calls Try.prog 83 #[.slice A0 l0.length c0, .agg #[.int .i64 a1_0, .int .i64 a1_1]] w fun e w' => e = .returned (.agg #[.int .i64 r1, .int .i64 r2]) ∧ Below w.heap.size w w' := by
 have hu116 := Try.underlying116
 have hu48 := Try.underlying48
 have HR0 := Aside0.mk hr0
 have HC0 := Aside0.mk hc0
 clear hr0 hc0
 have HB := Aside0.mk (Below.refl w.heap.size w)
 have H : ((impl_seen.f l0 a1_0 a1_1).bind fun t31 => (if t31 < 0 then (some (4, 0)) else (if 0 ≤ t31 then (if t31 < (l0.length : Int) then (if (rd_T90 l0 t31).f2 = true then (some (4, 0)) else (some (0, (rd_T90 l0 t31).f3))) else (none)) else (none)))) = some (r1, r2) := h
 clear h
 replace H := Option.bind_eq_some_iff.mp H
 obtain ⟨t31, A30, H⟩ := H
 replace H : (if t31 < 0 then (some (4, 0)) else (if 0 ≤ t31 then (if t31 < (l0.length : Int) then (if (rd_T90 l0 t31).f2 = true then (some (4, 0)) else (some (0, (rd_T90 l0 t31).f3))) else (none)) else (none))) = some (r1, r2) := H
 have A3 := Aside0.mk A30
 clear A30
 by_cases c4 : t31 < 0
 ·rw [if_pos c4] at H
  have c4b0 : decide (t31 < 0) = true := decide_eq_true c4
  clear c4
  simp only [Option.some.injEq, Prod.mk.injEq] at H
  obtain ⟨rfl, rfl⟩ := H
  go_enter Try.func83, Try.ntmps83
  go_wp2_with (first | ((with_reducible refine gate_dst (N := 3) rfl ?_); refine zE 3 116 #[.int .i64 a1_0, .int .i64 a1_1] ?_; intro gb27 hg w5 hbox hb; have BK27 := Aside0.mk hbox; have GW27 := Aside0.mk (zh hg : w.heap.size ≤ gb27); have GE27 := GW27; replace HB := Aside0.mk (below_step zb hb); clear hb hbox hg) | ((with_reducible refine gate_dst (N := 4) rfl ?_); refine zE 4 48 #[.int .i64 0, .int .i64 0] ?_; intro gb28 hg w6 hbox hb; have BK28 := Aside0.mk hbox; have GW28 := Aside0.mk (zh hg : w.heap.size ≤ gb28); have NB389_390 := zl BK27 hg; have NB390_389 := zL BK27 hg; have GE28 := GW28; replace BK27 := zw BK27 hb; replace HB := Aside0.mk (below_step zb hb); clear hb hbox hg; have hnb7 := NB389_390.out; have hnc7 := NB390_389.out; obtain ⟨z8_0, z8_1, j8_0, j8_1⟩ := Lv.blks2 BK27.out) | ((with_reducible refine gate_callee (f := 129) rfl ?_); refine zj 8 Try.func129 #[.slice A0 l0.length c0, .agg #[.int .i64 a1_0, .int .i64 a1_1]] ?_; (with_reducible refine (impl_seen.calls _ _ l0 a1_0 a1_1 t31 _ ?side1 ?side2 A3.out).mono ?_); (case side1 => exact zc (Kd.C_below HR0.out HB.out)); (case side2 => exact HC0.out); rintro e w9 ⟨rfl, hb⟩; refine ⟨_, rfl, ?_⟩; replace BK27 := zw BK27 hb; replace BK28 := zw BK28 hb; replace HB := Aside0.mk (below_step zb hb); (try clear hb); (try clear hb2); (try clear hk); (try clear hi); obtain ⟨z10_0, z10_1, j10_0, j10_1⟩ := Lv.blks2 BK28.out))
  refine bodyPost_ret (results_cell_row rfl _ _ gb28 48 #[.int .i64 4, .int .i64 0] (0, 0) _ rfl (by refine zQ ?_; refine blk_put (cs := #[.int .i64 4, .int .i64 0]) ?_ 1 _ rfl; refine zQ ?_; refine blk_put (cs := #[.int .i64 0, .int .i64 0]) ?_ 0 _ rfl; refine zQ ?_; exact BK28.out) Try.underlying48 rfl (by kernel_rfl)) rfl ?_
  exact ⟨ze, zb⟩
 rw [if_neg c4] at H
 have c4b0 : decide (t31 < 0) = false := decide_eq_false c4
 clear c4
 by_cases c11 : 0 ≤ t31
 ·rw [if_pos c11] at H
  have c11b0 : decide (0 ≤ t31) = true := decide_eq_true c11
  clear c11
  by_cases c12 : t31 < (l0.length : Int)
  ·rw [if_pos c12] at H
   have c12b0 : decide (t31 < (l0.length : Int)) = true := decide_eq_true c12
   clear c12
   obtain ⟨bq13, hbq13⟩ : ∃ b_ : Bool, b_ = ((rd_T90 l0 t31).f2) := ⟨_, rfl⟩
   replace H : (if bq13 = true then (some (4, 0)) else (some (0, (rd_T90 l0 t31).f3))) = some (r1, r2) := by rw [← hbq13] at H; exact H
   have Nbq13 := Aside0.mk hbq13
   clear hbq13
   by_cases c14 : bq13 = true
   ·subst c14
    have H1 : (some (4, 0)) = some (r1, r2) := by rw [if_pos rfl] at H; exact H
    clear H
    have H := H1
    clear H1
    simp only [Option.some.injEq, Prod.mk.injEq] at H
    obtain ⟨rfl, rfl⟩ := H
    go_enter Try.func83, Try.ntmps83
    go_wp2_with (first | ((with_reducible refine gate_dst (N := 3) rfl ?_); refine zE 3 116 #[.int .i64 a1_0, .int .i64 a1_1] ?_; intro gb27 hg w15 hbox hb; have BK27 := Aside0.mk hbox; have GW27 := Aside0.mk (zh hg : w.heap.size ≤ gb27); have GE27 := GW27; replace HB := Aside0.mk (below_step zb hb); clear hb hbox hg) | ((with_reducible refine gate_dst (N := 4) rfl ?_); refine zE 4 48 #[.int .i64 0, .int .i64 0] ?_; intro gb28 hg w16 hbox hb; have BK28 := Aside0.mk hbox; have GW28 := Aside0.mk (zh hg : w.heap.size ≤ gb28); have NB389_390 := zl BK27 hg; have NB390_389 := zL BK27 hg; have GE28 := GW28; replace BK27 := zw BK27 hb; replace HB := Aside0.mk (below_step zb hb); clear hb hbox hg; have hnb17 := NB389_390.out; have hnc17 := NB390_389.out; obtain ⟨z18_0, z18_1, j18_0, j18_1⟩ := Lv.blks2 BK27.out) | ((with_reducible refine gate_callee (f := 129) rfl ?_); refine zj 8 Try.func129 #[.slice A0 l0.length c0, .agg #[.int .i64 a1_0, .int .i64 a1_1]] ?_; (with_reducible refine (impl_seen.calls _ _ l0 a1_0 a1_1 t31 _ ?side1 ?side2 A3.out).mono ?_); (case side1 => exact zc (Kd.C_below HR0.out HB.out)); (case side2 => exact HC0.out); rintro e w19 ⟨rfl, hb⟩; refine ⟨_, rfl, ?_⟩; replace BK27 := zw BK27 hb; replace BK28 := zw BK28 hb; replace HB := Aside0.mk (below_step zb hb); (try clear hb); (try clear hb2); (try clear hk); (try clear hi); have p392 : 0 ≤ (t31 : Int) := of_decide_eq_true za; have q29 : t31 < (l0.length : Int) := of_decide_eq_true za; obtain ⟨ad29, e392, hx29_0, hx29_1, hx29_2, hx29_3⟩ := at_T90 HR0.out t31 p392 q29; (try rw [← Nbq13.out] at hx29_2); cases e392; replace hx29_0 := zx HB hx29_0; replace hx29_1 := zx HB hx29_1; replace hx29_2 := zx HB hx29_2; replace hx29_3 := zx HB hx29_3; replace p392 := eq_true p392; replace q29 := eq_true q29; obtain ⟨z20_0, z20_1, j20_0, j20_1⟩ := Lv.blks2 BK28.out))
    refine bodyPost_ret (results_cell_row rfl _ _ gb28 48 #[.int .i64 4, .int .i64 0] (0, 0) _ rfl (by refine zQ ?_; refine blk_put (cs := #[.int .i64 4, .int .i64 0]) ?_ 1 _ rfl; refine zQ ?_; refine blk_put (cs := #[.int .i64 0, .int .i64 0]) ?_ 0 _ rfl; refine zQ ?_; exact BK28.out) Try.underlying48 rfl (by kernel_rfl)) rfl ?_
    exact ⟨ze, zb⟩
   replace c14 := Bool.eq_false_iff.mpr c14
   subst c14
   have H1 : (some (0, (rd_T90 l0 t31).f3)) = some (r1, r2) := by rw [if_neg (show ¬ (false = true) by decide)] at H; exact H
   clear H
   have H := H1
   clear H1
   simp only [Option.some.injEq, Prod.mk.injEq] at H
   obtain ⟨rfl, rfl⟩ := H
   go_enter Try.func83, Try.ntmps83
   go_wp2_with (first | ((with_reducible refine gate_dst (N := 3) rfl ?_); refine zE 3 116 #[.int .i64 a1_0, .int .i64 a1_1] ?_; intro gb27 hg w21 hbox hb; have BK27 := Aside0.mk hbox; have GW27 := Aside0.mk (zh hg : w.heap.size ≤ gb27); have GE27 := GW27; replace HB := Aside0.mk (below_step zb hb); clear hb hbox hg) | ((with_reducible refine gate_dst (N := 4) rfl ?_); refine zE 4 48 #[.int .i64 0, .int .i64 0] ?_; intro gb28 hg w22 hbox hb; have BK28 := Aside0.mk hbox; have GW28 := Aside0.mk (zh hg : w.heap.size ≤ gb28); have NB389_390 := zl BK27 hg; have NB390_389 := zL BK27 hg; have GE28 := GW28; replace BK27 := zw BK27 hb; replace HB := Aside0.mk (below_step zb hb); clear hb hbox hg; have hnb23 := NB389_390.out; have hnc23 := NB390_389.out; obtain ⟨z24_0, z24_1, j24_0, j24_1⟩ := Lv.blks2 BK27.out) | ((with_reducible refine gate_callee (f := 129) rfl ?_); refine zj 8 Try.func129 #[.slice A0 l0.length c0, .agg #[.int .i64 a1_0, .int .i64 a1_1]] ?_; (with_reducible refine (impl_seen.calls _ _ l0 a1_0 a1_1 t31 _ ?side1 ?side2 A3.out).mono ?_); (case side1 => exact zc (Kd.C_below HR0.out HB.out)); (case side2 => exact HC0.out); rintro e w25 ⟨rfl, hb⟩; refine ⟨_, rfl, ?_⟩; replace BK27 := zw BK27 hb; replace BK28 := zw BK28 hb; replace HB := Aside0.mk (below_step zb hb); (try clear hb); (try clear hb2); (try clear hk); (try clear hi); have p392 : 0 ≤ (t31 : Int) := of_decide_eq_true za; have q29 : t31 < (l0.length : Int) := of_decide_eq_true za; obtain ⟨ad29, e392, hx29_0, hx29_1, hx29_2, hx29_3⟩ := at_T90 HR0.out t31 p392 q29; (try rw [← Nbq13.out] at hx29_2); cases e392; replace hx29_0 := zx HB hx29_0; replace hx29_1 := zx HB hx29_1; replace hx29_2 := zx HB hx29_2; replace hx29_3 := zx HB hx29_3; replace p392 := eq_true p392; replace q29 := eq_true q29; have p393 : 0 ≤ (t31 : Int) := of_decide_eq_true za; have q32 : t31 < (l0.length : Int) := of_decide_eq_true za; obtain ⟨ad32, e393, hx32_0, hx32_1, hx32_2, hx32_3⟩ := at_T90 HR0.out t31 p393 q32; (try rw [← Nbq13.out] at hx32_2); obtain rfl : ad29 = ad32 := (by injection e393); replace hx32_0 := zx HB hx32_0; replace hx32_1 := zx HB hx32_1; replace hx32_2 := zx HB hx32_2; replace hx32_3 := zx HB hx32_3; replace p393 := eq_true p393; replace q32 := eq_true q32; obtain ⟨z26_0, z26_1, j26_0, j26_1⟩ := Lv.blks2 BK28.out))
   refine bodyPost_ret (results_cell_row rfl _ _ gb28 48 #[.int .i64 0, .int .i64 ((rd_T90 l0 t31).f3)] (0, 0) _ rfl (by refine zQ ?_; refine blk_put (cs := #[.int .i64 0, .int .i64 0]) ?_ 1 _ rfl; refine zQ ?_; refine blk_put (cs := #[.int .i64 0, .int .i64 0]) ?_ 0 _ rfl; refine zQ ?_; exact BK28.out) Try.underlying48 rfl (by kernel_rfl)) rfl ?_
   exact ⟨ze, zb⟩
  rw [if_neg c12] at H
  exact absurd H (by simp)
 rw [if_neg c11] at H
 exact absurd H (by simp)
set_option maxHeartbeats 8000000 in
set_option maxRecDepth 100000 in
theorem impl_Txn_view.calls (a0_0 : Int) (a0_1 : Int) (a0_2 : Int) (a0_3 : Int) (A0_4 : Option Addr) (c0_4 : Nat) (l0_4 : List (S96)) (r1 : Int) (r2 : Int) (w : World) (hr0_4 : Kd.C k96 w A0_4 l0_4.length l0_4) (hc0_4 : l0_4.length ≤ c0_4) (h : impl_Txn_view.f a0_0 a0_1 a0_2 a0_3 l0_4 = some (r1, r2)) :
 Calls Try.prog 84 #[.agg #[.int .i64 a0_0, .int .i64 a0_1, .int .i64 a0_2, .int .i64 a0_3, .slice A0_4 l0_4.length c0_4]] w fun e w' => e = .returned (.agg #[.int .i64 r1, .int .i64 r2]) ∧ Below w.heap.size w w' := by
 have hu83 := Try.underlying83
 have hu116 := Try.underlying116
 have HR0_4 := Aside0.mk hr0_4
 have HC0_4 := Aside0.mk hc0_4
 clear hr0_4 hc0_4
 have HB := Aside0.mk (Below.refl w.heap.size w)
 have H : (some (a0_1, a0_0)) = some (r1, r2) := h
 clear h
 simp only [Option.some.injEq, Prod.mk.injEq] at H
 obtain ⟨rfl, rfl⟩ := H
 go_enter Try.func84, Try.ntmps84
 go_wp2_with (first | ((with_reducible refine gate_dst (N := 1) rfl ?_); refine zE 1 83 #[.int .i64 a0_0, .int .i64 a0_1, .int .i64 a0_2, .int .i64 a0_3, .slice A0_4 l0_4.length c0_4] ?_; intro gb7 hg w2 hbox hb; have BK7 := Aside0.mk hbox; have GW7 := Aside0.mk (zh hg : w.heap.size ≤ gb7); have GE7 := GW7; replace HB := Aside0.mk (below_step zb hb); clear hb hbox hg) | ((with_reducible refine gate_dst (N := 2) rfl ?_); refine zE 2 116 #[.int .i64 0, .int .i64 0] ?_; intro gb8 hg w3 hbox hb; have BK8 := Aside0.mk hbox; have GW8 := Aside0.mk (zh hg : w.heap.size ≤ gb8); have NB394_395 := zl BK7 hg; have NB395_394 := zL BK7 hg; have GE8 := GW8; replace BK7 := zw BK7 hb; replace HB := Aside0.mk (below_step zb hb); clear hb hbox hg; have hnb4 := NB394_395.out; have hnc4 := NB395_394.out; obtain ⟨z5_0, z5_1, z5_2, z5_3, z5_4, j5_0, j5_1, j5_2, j5_3, j5_4⟩ := Lv.blks5 BK7.out; obtain ⟨z6_0, z6_1, j6_0, j6_1⟩ := Lv.blks2 BK8.out))
 refine bodyPost_ret (results_cell_row rfl _ _ gb8 116 #[.int .i64 a0_1, .int .i64 a0_0] (0, 0) _ rfl (by refine zQ ?_; refine blk_put (cs := #[.int .i64 a0_1, .int .i64 0]) ?_ 1 _ rfl; refine zQ ?_; refine blk_put (cs := #[.int .i64 0, .int .i64 0]) ?_ 0 _ rfl; refine zQ ?_; exact BK8.out) Try.underlying116 rfl (by kernel_rfl)) rfl ?_
 exact ⟨ze, zb⟩
end Go.Proofs.Ytonbnmaelepcbaa.P
