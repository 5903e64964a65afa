import Derived.Test.YtonbnmaelepcbaaZz
import Derived.Test.YtonbnmaelepcbaaP0
import Derived.Test.YtonbnmaelepcbaaPCacdefgh0
import Derived.Test.YtonbnmaelepcbaaPCacdefgh3
import Derived.Test.YtonbnmaelepcbaaPCall2
import Derived.Test.YtonbnmaelepcbaaPCg1
import Derived.Test.YtonbnmaelepcbaaPCg3
import Derived.Test.YtonbnmaelepcbaaPDacdefgh0
import Derived.Test.YtonbnmaelepcbaaPDg0
import Derived.Test.YtonbnmaelepcbaaPDm0
import Derived.Test.YtonbnmaelepcbaaWRepsOne
import Derived.Test.YtonbnmaelepcbaaLv
namespace Go.Proofs.Ytonbnmaelepcbaa.P
open Go.RowKit Go.Proofs.YtonbnmaelepcbaaW.PrintWords Go.Proofs.YtonbnmaelepcbaaW.PrintLast Go.Proofs.YtonbnmaelepcbaaW.PrintMore
attribute [local go_sem] max2_int min2_int max_two min_two max_three min_three max_four min_four   -- for this text's walks alone
set_option linter.unusedVariables false
set_option linter.unusedSimpArgs false
set_option maxHeartbeats 8000000 in
set_option maxRecDepth 100000 in
theorem laws_FnExactSameAnswers.calls (k : Nat) (a0_0 : Int) (a0_1 : Int) (A0_2 : Option Addr) (c0_2 : Nat) (l0_2 : List (S139)) (A0_3 : Option Addr) (c0_3 : Nat) (l0_3 : List (S143)) (a1_0 : Int) (a1_1 : Int) (A1_2 : Option Addr) (c1_2 : Nat) (l1_2 : List (S139)) (A1_3 : Option Addr) (c1_3 : Nat) (l1_3 : List (S143)) (w : World) (hr0_2 : Kd.C k139 w A0_2 l0_2.length l0_2) (hc0_2 : l0_2.length ≤ c0_2) (hr0_3 : Kd.C k143 w A0_3 l0_3.length l0_3) (hc0_3 : l0_3.length ≤ c0_3) (hr1_2 : Kd.C k139 w A1_2 l1_2.length l1_2) (hc1_2 : l1_2.length ≤ c1_2) (hr1_3 : Kd.C k143 w A1_3 l1_3.length l1_3) (hc1_3 : l1_3.length ≤ c1_3) (h : laws_FnExactSameAnswers.f k a0_0 a0_1 l0_2 l0_3 a1_0 a1_1 l1_2 l1_3 = some true) :
 Calls Try.prog 9 #[.agg #[.int .i64 a0_0, .int .i64 a0_1, .slice A0_2 l0_2.length c0_2, .slice A0_3 l0_3.length c0_3], .agg #[.int .i64 a1_0, .int .i64 a1_1, .slice A1_2 l1_2.length c1_2, .slice A1_3 l1_3.length c1_3]] w fun e w' => e = .returned (.bool true) ∧ Below w.heap.size w w' := by
 have hu25 := Try.underlying25
 have hu31 := Try.underlying31
 have HR0_2 := Aside0.mk hr0_2
 have HC0_2 := Aside0.mk hc0_2
 clear hr0_2 hc0_2
 have HR0_3 := Aside0.mk hr0_3
 have HC0_3 := Aside0.mk hc0_3
 clear hr0_3 hc0_3
 have HR1_2 := Aside0.mk hr1_2
 have HC1_2 := Aside0.mk hc1_2
 clear hr1_2 hc1_2
 have HR1_3 := Aside0.mk hr1_3
 have HC1_3 := Aside0.mk hc1_3
 clear hr1_3 hc1_3
 have HB := Aside0.mk (Below.refl w.heap.size w)
 have H : ((laws_szEngine.f k a0_0 a0_1 l0_2 l0_3 1048576).bind fun t522 => (if t522 < 0 then (some true) else ((laws_szEngine.f k a1_0 a1_1 l1_2 l1_3 t522).bind fun t523 => (if t523 < 0 then (some true) else ((laws_toEngine.f k a0_0 a0_1 l0_2 l0_3).bind fun bt524 => ((laws_toEngine.f k a1_0 a1_1 l1_2 l1_3).bind fun bt532 => ((spec_SameAnswers.f k bt524.1 bt524.2.1 bt524.2.2.1 bt524.2.2.2 bt532.1 bt532.2.1 bt532.2.2.1 bt532.2.2.2).bind fun t540 => ((laws_toEngine.f k a0_0 a0_1 l0_2 l0_3).bind fun bt81 => ((laws_toEngine.f k a1_0 a1_1 l1_2 l1_3).bind fun bt80 => ((impl_SameAnswers.f k bt81.1 bt81.2.1 bt81.2.2.1 bt81.2.2.2 bt80.1 bt80.2.1 bt80.2.2.1 bt80.2.2.2).bind fun t559 => (if (t559 != t540) = true then (some false) else ((laws_toEngine.f k a0_0 a0_1 l0_2 l0_3).bind fun bt84 => ((laws_eqEngine.f k bt81.1 bt81.2.1 bt81.2.2.1 bt81.2.2.2 bt84.1 bt84.2.1 bt84.2.2.1 bt84.2.2.2).bind fun t568 => (if t568 = true then ((laws_toEngine.f k a1_0 a1_1 l1_2 l1_3).bind fun bt82 => ((laws_eqEngine.f k bt80.1 bt80.2.1 bt80.2.2.1 bt80.2.2.2 bt82.1 bt82.2.1 bt82.2.2.1 bt82.2.2.2).bind fun t577 => (if t577 = true then (some true) else (some false)))) else (some false))))))))))))))) = some true := h
 clear h
 replace H := Option.bind_eq_some_iff.mp H
 obtain ⟨t522, A30, H⟩ := H
 replace H : (if t522 < 0 then (some true) else ((laws_szEngine.f k a1_0 a1_1 l1_2 l1_3 t522).bind fun t523 => (if t523 < 0 then (some true) else ((laws_toEngine.f k a0_0 a0_1 l0_2 l0_3).bind fun bt524 => ((laws_toEngine.f k a1_0 a1_1 l1_2 l1_3).bind fun bt532 => ((spec_SameAnswers.f k bt524.1 bt524.2.1 bt524.2.2.1 bt524.2.2.2 bt532.1 bt532.2.1 bt532.2.2.1 bt532.2.2.2).bind fun t540 => ((laws_toEngine.f k a0_0 a0_1 l0_2 l0_3).bind fun bt81 => ((laws_toEngine.f k a1_0 a1_1 l1_2 l1_3).bind fun bt80 => ((impl_SameAnswers.f k bt81.1 bt81.2.1 bt81.2.2.1 bt81.2.2.2 bt80.1 bt80.2.1 bt80.2.2.1 bt80.2.2.2).bind fun t559 => (if (t559 != t540) = true then (some false) else ((laws_toEngine.f k a0_0 a0_1 l0_2 l0_3).bind fun bt84 => ((laws_eqEngine.f k bt81.1 bt81.2.1 bt81.2.2.1 bt81.2.2.2 bt84.1 bt84.2.1 bt84.2.2.1 bt84.2.2.2).bind fun t568 => (if t568 = true then ((laws_toEngine.f k a1_0 a1_1 l1_2 l1_3).bind fun bt82 => ((laws_eqEngine.f k bt80.1 bt80.2.1 bt80.2.2.1 bt80.2.2.2 bt82.1 bt82.2.1 bt82.2.2.1 bt82.2.2.2).bind fun t577 => (if t577 = true then (some true) else (some false)))) else (some false)))))))))))))) = some true := H
 have A3 := Aside0.mk A30
 clear A30
 by_cases c4 : t522 < 0
 ·rw [if_pos c4] at H
  have c4b0 : decide (t522 < 0) = true := decide_eq_true c4
  clear c4
  go_enter Try.func9, Try.ntmps9
  go_wp2_with (first | ((with_reducible refine gate_dst (N := 2) rfl ?_); refine zE 2 25 #[.int .i64 a0_0, .int .i64 a0_1, .slice A0_2 l0_2.length c0_2, .slice A0_3 l0_3.length c0_3] ?_; intro gb76 hg w5 hbox hb; have BK76 := Aside0.mk hbox; have GW76 := Aside0.mk (zh hg : w.heap.size ≤ gb76); have GE76 := GW76; replace HB := Aside0.mk (below_step zb hb); clear hb hbox hg) | ((with_reducible refine gate_dst (N := 3) rfl ?_); refine zE 3 25 #[.int .i64 a1_0, .int .i64 a1_1, .slice A1_2 l1_2.length c1_2, .slice A1_3 l1_3.length c1_3] ?_; intro gb77 hg w6 hbox hb; have BK77 := Aside0.mk hbox; have GW77 := Aside0.mk (zh hg : w.heap.size ≤ gb77); have NB520_521 := zl BK76 hg; have NB521_520 := zL BK76 hg; have GE77 := GW77; replace BK76 := zw BK76 hb; replace HB := Aside0.mk (below_step zb hb); clear hb hbox hg; have hnb7 := NB520_521.out; have hnc7 := NB521_520.out; obtain ⟨z8_0, z8_1, z8_2, z8_3, j8_0, j8_1, j8_2, j8_3⟩ := Lv.blks4 BK76.out) | ((with_reducible refine gate_callee (f := 11) rfl ?_); refine zj 12 Try.func11 #[.agg #[.int .i64 a0_0, .int .i64 a0_1, .slice A0_2 l0_2.length c0_2, .slice A0_3 l0_3.length c0_3], .int .i64 1048576] ?_; (with_reducible refine (laws_szEngine.calls k a0_0 a0_1 _ _ l0_2 _ _ l0_3 1048576 t522 _ ?side1 ?side2 ?side3 ?side4 A3.out).mono ?_); (case side1 => exact zc (Kd.C_below HR0_2.out HB.out)); (case side2 => exact HC0_2.out); (case side3 => exact zc (Kd.C_below HR0_3.out HB.out)); (case side4 => exact HC0_3.out); rintro e w9 ⟨rfl, hb⟩; refine ⟨_, rfl, ?_⟩; replace BK76 := zw BK76 hb; replace BK77 := zw BK77 hb; replace HB := Aside0.mk (below_step zb hb); (try clear hb); (try clear hb2); (try clear hk); (try clear hi)))
  go_ret
  exact ⟨ze, zb⟩
 rw [if_neg c4] at H
 have c4b0 : decide (t522 < 0) = false := decide_eq_false c4
 clear c4
 replace H := Option.bind_eq_some_iff.mp H
 obtain ⟨t523, A100, H⟩ := H
 replace H : (if t523 < 0 then (some true) else ((laws_toEngine.f k a0_0 a0_1 l0_2 l0_3).bind fun bt524 => ((laws_toEngine.f k a1_0 a1_1 l1_2 l1_3).bind fun bt532 => ((spec_SameAnswers.f k bt524.1 bt524.2.1 bt524.2.2.1 bt524.2.2.2 bt532.1 bt532.2.1 bt532.2.2.1 bt532.2.2.2).bind fun t540 => ((laws_toEngine.f k a0_0 a0_1 l0_2 l0_3).bind fun bt81 => ((laws_toEngine.f k a1_0 a1_1 l1_2 l1_3).bind fun bt80 => ((impl_SameAnswers.f k bt81.1 bt81.2.1 bt81.2.2.1 bt81.2.2.2 bt80.1 bt80.2.1 bt80.2.2.1 bt80.2.2.2).bind fun t559 => (if (t559 != t540) = true then (some false) else ((laws_toEngine.f k a0_0 a0_1 l0_2 l0_3).bind fun bt84 => ((laws_eqEngine.f k bt81.1 bt81.2.1 bt81.2.2.1 bt81.2.2.2 bt84.1 bt84.2.1 bt84.2.2.1 bt84.2.2.2).bind fun t568 => (if t568 = true then ((laws_toEngine.f k a1_0 a1_1 l1_2 l1_3).bind fun bt82 => ((laws_eqEngine.f k bt80.1 bt80.2.1 bt80.2.2.1 bt80.2.2.2 bt82.1 bt82.2.1 bt82.2.2.1 bt82.2.2.2).bind fun t577 => (if t577 = true then (some true) else (some false)))) else (some false)))))))))))) = some true := H
 have A10 := Aside0.mk A100
 clear A100
 by_cases c11 : t523 < 0
 ·rw [if_pos c11] at H
  have c11b0 : decide (t523 < 0) = true := decide_eq_true c11
  clear c11
  go_enter Try.func9, Try.ntmps9
  go_wp2_with (first | ((with_reducible refine gate_dst (N := 2) rfl ?_); refine zE 2 25 #[.int .i64 a0_0, .int .i64 a0_1, .slice A0_2 l0_2.length c0_2, .slice A0_3 l0_3.length c0_3] ?_; intro gb76 hg w12 hbox hb; have BK76 := Aside0.mk hbox; have GW76 := Aside0.mk (zh hg : w.heap.size ≤ gb76); have GE76 := GW76; replace HB := Aside0.mk (below_step zb hb); clear hb hbox hg) | ((with_reducible refine gate_dst (N := 3) rfl ?_); refine zE 3 25 #[.int .i64 a1_0, .int .i64 a1_1, .slice A1_2 l1_2.length c1_2, .slice A1_3 l1_3.length c1_3] ?_; intro gb77 hg w13 hbox hb; have BK77 := Aside0.mk hbox; have GW77 := Aside0.mk (zh hg : w.heap.size ≤ gb77); have NB520_521 := zl BK76 hg; have NB521_520 := zL BK76 hg; have GE77 := GW77; replace BK76 := zw BK76 hb; replace HB := Aside0.mk (below_step zb hb); clear hb hbox hg; have hnb14 := NB520_521.out; have hnc14 := NB521_520.out; obtain ⟨z15_0, z15_1, z15_2, z15_3, j15_0, j15_1, j15_2, j15_3⟩ := Lv.blks4 BK76.out) | ((with_reducible refine gate_callee (f := 11) rfl ?_); refine zj 12 Try.func11 #[.agg #[.int .i64 a0_0, .int .i64 a0_1, .slice A0_2 l0_2.length c0_2, .slice A0_3 l0_3.length c0_3], .int .i64 1048576] ?_; (with_reducible refine (laws_szEngine.calls k a0_0 a0_1 _ _ l0_2 _ _ l0_3 1048576 t522 _ ?side1 ?side2 ?side3 ?side4 A3.out).mono ?_); (case side1 => exact zc (Kd.C_below HR0_2.out HB.out)); (case side2 => exact HC0_2.out); (case side3 => exact zc (Kd.C_below HR0_3.out HB.out)); (case side4 => exact HC0_3.out); rintro e w16 ⟨rfl, hb⟩; refine ⟨_, rfl, ?_⟩; replace BK76 := zw BK76 hb; replace BK77 := zw BK77 hb; replace HB := Aside0.mk (below_step zb hb); (try clear hb); (try clear hb2); (try clear hk); (try clear hi); obtain ⟨z17_0, z17_1, z17_2, z17_3, j17_0, j17_1, j17_2, j17_3⟩ := Lv.blks4 BK77.out) | ((with_reducible refine gate_callee (f := 11) rfl ?_); refine zj 17 Try.func11 #[.agg #[.int .i64 a1_0, .int .i64 a1_1, .slice A1_2 l1_2.length c1_2, .slice A1_3 l1_3.length c1_3], .int .i64 t522] ?_; (with_reducible refine (laws_szEngine.calls k a1_0 a1_1 _ _ l1_2 _ _ l1_3 t522 t523 _ ?side1 ?side2 ?side3 ?side4 A10.out).mono ?_); (case side1 => exact zc (Kd.C_below HR1_2.out HB.out)); (case side2 => exact HC1_2.out); (case side3 => exact zc (Kd.C_below HR1_3.out HB.out)); (case side4 => exact HC1_3.out); rintro e w18 ⟨rfl, hb⟩; refine ⟨_, rfl, ?_⟩; replace BK76 := zw BK76 hb; replace BK77 := zw BK77 hb; replace HB := Aside0.mk (below_step zb hb); (try clear hb); (try clear hb2); (try clear hk); (try clear hi)))
  go_ret
  exact ⟨ze, zb⟩
 rw [if_neg c11] at H
 have c11b0 : decide (t523 < 0) = false := decide_eq_false c11
 clear c11
 replace H := Option.bind_eq_some_iff.mp H
 obtain ⟨⟨t524, t525, t526, t529⟩, A190, H⟩ := H
 replace H : ((laws_toEngine.f k a1_0 a1_1 l1_2 l1_3).bind fun bt532 => ((spec_SameAnswers.f k t524 t525 t526 t529 bt532.1 bt532.2.1 bt532.2.2.1 bt532.2.2.2).bind fun t540 => ((laws_toEngine.f k a0_0 a0_1 l0_2 l0_3).bind fun bt81 => ((laws_toEngine.f k a1_0 a1_1 l1_2 l1_3).bind fun bt80 => ((impl_SameAnswers.f k bt81.1 bt81.2.1 bt81.2.2.1 bt81.2.2.2 bt80.1 bt80.2.1 bt80.2.2.1 bt80.2.2.2).bind fun t559 => (if (t559 != t540) = true then (some false) else ((laws_toEngine.f k a0_0 a0_1 l0_2 l0_3).bind fun bt84 => ((laws_eqEngine.f k bt81.1 bt81.2.1 bt81.2.2.1 bt81.2.2.2 bt84.1 bt84.2.1 bt84.2.2.1 bt84.2.2.2).bind fun t568 => (if t568 = true then ((laws_toEngine.f k a1_0 a1_1 l1_2 l1_3).bind fun bt82 => ((laws_eqEngine.f k bt80.1 bt80.2.1 bt80.2.2.1 bt80.2.2.2 bt82.1 bt82.2.1 bt82.2.2.1 bt82.2.2.2).bind fun t577 => (if t577 = true then (some true) else (some false)))) else (some false)))))))))) = some true := H
 have A19 := Aside0.mk A190
 clear A190
 replace H := Option.bind_eq_some_iff.mp H
 obtain ⟨⟨t532, t533, t534, t537⟩, A200, H⟩ := H
 replace H : ((spec_SameAnswers.f k t524 t525 t526 t529 t532 t533 t534 t537).bind fun t540 => ((laws_toEngine.f k a0_0 a0_1 l0_2 l0_3).bind fun bt81 => ((laws_toEngine.f k a1_0 a1_1 l1_2 l1_3).bind fun bt80 => ((impl_SameAnswers.f k bt81.1 bt81.2.1 bt81.2.2.1 bt81.2.2.2 bt80.1 bt80.2.1 bt80.2.2.1 bt80.2.2.2).bind fun t559 => (if (t559 != t540) = true then (some false) else ((laws_toEngine.f k a0_0 a0_1 l0_2 l0_3).bind fun bt84 => ((laws_eqEngine.f k bt81.1 bt81.2.1 bt81.2.2.1 bt81.2.2.2 bt84.1 bt84.2.1 bt84.2.2.1 bt84.2.2.2).bind fun t568 => (if t568 = true then ((laws_toEngine.f k a1_0 a1_1 l1_2 l1_3).bind fun bt82 => ((laws_eqEngine.f k bt80.1 bt80.2.1 bt80.2.2.1 bt80.2.2.2 bt82.1 bt82.2.1 bt82.2.2.1 bt82.2.2.2).bind fun t577 => (if t577 = true then (some true) else (some false)))) else (some false))))))))) = some true := H
 have A20 := Aside0.mk A200
 clear A200
 replace H := Option.bind_eq_some_iff.mp H
 obtain ⟨t540, A210, H⟩ := H
 replace H : ((laws_toEngine.f k a0_0 a0_1 l0_2 l0_3).bind fun bt81 => ((laws_toEngine.f k a1_0 a1_1 l1_2 l1_3).bind fun bt80 => ((impl_SameAnswers.f k bt81.1 bt81.2.1 bt81.2.2.1 bt81.2.2.2 bt80.1 bt80.2.1 bt80.2.2.1 bt80.2.2.2).bind fun t559 => (if (t559 != t540) = true then (some false) else ((laws_toEngine.f k a0_0 a0_1 l0_2 l0_3).bind fun bt84 => ((laws_eqEngine.f k bt81.1 bt81.2.1 bt81.2.2.1 bt81.2.2.2 bt84.1 bt84.2.1 bt84.2.2.1 bt84.2.2.2).bind fun t568 => (if t568 = true then ((laws_toEngine.f k a1_0 a1_1 l1_2 l1_3).bind fun bt82 => ((laws_eqEngine.f k bt80.1 bt80.2.1 bt80.2.2.1 bt80.2.2.2 bt82.1 bt82.2.1 bt82.2.2.1 bt82.2.2.2).bind fun t577 => (if t577 = true then (some true) else (some false)))) else (some false)))))))) = some true := H
 have A21 := Aside0.mk A210
 clear A210
 replace H := Option.bind_eq_some_iff.mp H
 obtain ⟨⟨t81, t93, t92, t94⟩, A220, H⟩ := H
 replace H : ((laws_toEngine.f k a1_0 a1_1 l1_2 l1_3).bind fun bt80 => ((impl_SameAnswers.f k t81 t93 t92 t94 bt80.1 bt80.2.1 bt80.2.2.1 bt80.2.2.2).bind fun t559 => (if (t559 != t540) = true then (some false) else ((laws_toEngine.f k a0_0 a0_1 l0_2 l0_3).bind fun bt84 => ((laws_eqEngine.f k t81 t93 t92 t94 bt84.1 bt84.2.1 bt84.2.2.1 bt84.2.2.2).bind fun t568 => (if t568 = true then ((laws_toEngine.f k a1_0 a1_1 l1_2 l1_3).bind fun bt82 => ((laws_eqEngine.f k bt80.1 bt80.2.1 bt80.2.2.1 bt80.2.2.2 bt82.1 bt82.2.1 bt82.2.2.1 bt82.2.2.2).bind fun t577 => (if t577 = true then (some true) else (some false)))) else (some false))))))) = some true := H
 have A22 := Aside0.mk A220
 clear A220
 replace H := Option.bind_eq_some_iff.mp H
 obtain ⟨⟨t80, t98, t95, t99⟩, A230, H⟩ := H
 replace H : ((impl_SameAnswers.f k t81 t93 t92 t94 t80 t98 t95 t99).bind fun t559 => (if (t559 != t540) = true then (some false) else ((laws_toEngine.f k a0_0 a0_1 l0_2 l0_3).bind fun bt84 => ((laws_eqEngine.f k t81 t93 t92 t94 bt84.1 bt84.2.1 bt84.2.2.1 bt84.2.2.2).bind fun t568 => (if t568 = true then ((laws_toEngine.f k a1_0 a1_1 l1_2 l1_3).bind fun bt82 => ((laws_eqEngine.f k t80 t98 t95 t99 bt82.1 bt82.2.1 bt82.2.2.1 bt82.2.2.2).bind fun t577 => (if t577 = true then (some true) else (some false)))) else (some false)))))) = some true := H
 have A23 := Aside0.mk A230
 clear A230
 replace H := Option.bind_eq_some_iff.mp H
 obtain ⟨t559, A240, H⟩ := H
 replace H : (if (t559 != t540) = true then (some false) else ((laws_toEngine.f k a0_0 a0_1 l0_2 l0_3).bind fun bt84 => ((laws_eqEngine.f k t81 t93 t92 t94 bt84.1 bt84.2.1 bt84.2.2.1 bt84.2.2.2).bind fun t568 => (if t568 = true then ((laws_toEngine.f k a1_0 a1_1 l1_2 l1_3).bind fun bt82 => ((laws_eqEngine.f k t80 t98 t95 t99 bt82.1 bt82.2.1 bt82.2.2.1 bt82.2.2.2).bind fun t577 => (if t577 = true then (some true) else (some false)))) else (some false))))) = some true := H
 have A24 := Aside0.mk A240
 clear A240
 by_cases c25 : (t559 != t540) = true
 ·rw [if_pos c25] at H
  have c25b0 : (t559 != t540) = true := c25
  (try (have c25b1 : decide (t559 = t540) = false := by simpa using c25))
  (try (have c25b2 : (t559 == t540) = false := by simpa using c25))
  (try (have c25b3 : ¬ (t559 = t540) := by simpa using c25))
  clear c25
  exact absurd H (by simp)
 rw [if_neg c25] at H
 have c25b0 : (t559 != t540) = false := by simpa using c25
 (try (have c25b1 : decide (t559 = t540) = true := by simpa using c25))
 (try (have c25b2 : (t559 == t540) = true := by simpa using c25))
 clear c25
 replace H := Option.bind_eq_some_iff.mp H
 obtain ⟨⟨t84, t561, t562, t565⟩, A260, H⟩ := H
 replace H : ((laws_eqEngine.f k t81 t93 t92 t94 t84 t561 t562 t565).bind fun t568 => (if t568 = true then ((laws_toEngine.f k a1_0 a1_1 l1_2 l1_3).bind fun bt82 => ((laws_eqEngine.f k t80 t98 t95 t99 bt82.1 bt82.2.1 bt82.2.2.1 bt82.2.2.2).bind fun t577 => (if t577 = true then (some true) else (some false)))) else (some false))) = some true := H
 have A26 := Aside0.mk A260
 clear A260
 replace H := Option.bind_eq_some_iff.mp H
 obtain ⟨t568, A270, H⟩ := H
 replace H : (if t568 = true then ((laws_toEngine.f k a1_0 a1_1 l1_2 l1_3).bind fun bt82 => ((laws_eqEngine.f k t80 t98 t95 t99 bt82.1 bt82.2.1 bt82.2.2.1 bt82.2.2.2).bind fun t577 => (if t577 = true then (some true) else (some false)))) else (some false)) = some true := H
 have A27 := Aside0.mk A270
 clear A270
 by_cases c28 : t568 = true
 ·subst c28
  have H1 : ((laws_toEngine.f k a1_0 a1_1 l1_2 l1_3).bind fun bt82 => ((laws_eqEngine.f k t80 t98 t95 t99 bt82.1 bt82.2.1 bt82.2.2.1 bt82.2.2.2).bind fun t577 => (if t577 = true then (some true) else (some false)))) = some true := by rw [if_pos rfl] at H; first | done | exact H
  clear H
  have H := H1
  clear H1
  replace H := Option.bind_eq_some_iff.mp H
  obtain ⟨⟨t82, t570, t571, t574⟩, A290, H⟩ := H
  replace H : ((laws_eqEngine.f k t80 t98 t95 t99 t82 t570 t571 t574).bind fun t577 => (if t577 = true then (some true) else (some false))) = some true := H
  have A29 := Aside0.mk A290
  clear A290
  replace H := Option.bind_eq_some_iff.mp H
  obtain ⟨t577, A300, H⟩ := H
  replace H : (if t577 = true then (some true) else (some false)) = some true := H
  have A30 := Aside0.mk A300
  clear A300
  by_cases c31 : t577 = true
  ·subst c31
   have H1 : (some true) = some true := by rw [if_pos rfl] at H; first | done | exact H
   clear H
   have H := H1
   clear H1
   go_enter Try.func9, Try.ntmps9
   try go_wp2_with (first | ((with_reducible refine gate_dst (N := 2) rfl ?_); refine zE 2 25 #[.int .i64 a0_0, .int .i64 a0_1, .slice A0_2 l0_2.length c0_2, .slice A0_3 l0_3.length c0_3] ?_; intro gb76 hg w32 hbox hb; have BK76 := Aside0.mk hbox; have GW76 := Aside0.mk (zh hg : w.heap.size ≤ gb76); have GE76 := GW76; replace HB := Aside0.mk (below_step zb hb); clear hb hbox hg) | ((with_reducible refine gate_dst (N := 3) rfl ?_); refine zE 3 25 #[.int .i64 a1_0, .int .i64 a1_1, .slice A1_2 l1_2.length c1_2, .slice A1_3 l1_3.length c1_3] ?_; intro gb77 hg w33 hbox hb; have BK77 := Aside0.mk hbox; have GW77 := Aside0.mk (zh hg : w.heap.size ≤ gb77); have NB520_521 := zl BK76 hg; have NB521_520 := zL BK76 hg; have GE77 := GW77; replace BK76 := zw BK76 hb; replace HB := Aside0.mk (below_step zb hb); clear hb hbox hg; have hnb34 := NB520_521.out; have hnc34 := NB521_520.out; obtain ⟨z35_0, z35_1, z35_2, z35_3, j35_0, j35_1, j35_2, j35_3⟩ := Lv.blks4 BK76.out) | ((with_reducible refine gate_callee (f := 11) rfl ?_); refine zj 12 Try.func11 #[.agg #[.int .i64 a0_0, .int .i64 a0_1, .slice A0_2 l0_2.length c0_2, .slice A0_3 l0_3.length c0_3], .int .i64 1048576] ?_; (with_reducible refine (laws_szEngine.calls k a0_0 a0_1 _ _ l0_2 _ _ l0_3 1048576 t522 _ ?side1 ?side2 ?side3 ?side4 A3.out).mono ?_); (case side1 => exact zc (Kd.C_below HR0_2.out HB.out)); (case side2 => exact HC0_2.out); (case side3 => exact zc (Kd.C_below HR0_3.out HB.out)); (case side4 => exact HC0_3.out); rintro e w36 ⟨rfl, hb⟩; refine ⟨_, rfl, ?_⟩; replace BK76 := zw BK76 hb; replace BK77 := zw BK77 hb; replace HB := Aside0.mk (below_step zb hb); (try clear hb); (try clear hb2); (try clear hk); (try clear hi); obtain ⟨z37_0, z37_1, z37_2, z37_3, j37_0, j37_1, j37_2, j37_3⟩ := Lv.blks4 BK77.out) | ((with_reducible refine gate_callee (f := 11) rfl ?_); refine zj 17 Try.func11 #[.agg #[.int .i64 a1_0, .int .i64 a1_1, .slice A1_2 l1_2.length c1_2, .slice A1_3 l1_3.length c1_3], .int .i64 t522] ?_; (with_reducible refine (laws_szEngine.calls k a1_0 a1_1 _ _ l1_2 _ _ l1_3 t522 t523 _ ?side1 ?side2 ?side3 ?side4 A10.out).mono ?_); (case side1 => exact zc (Kd.C_below HR1_2.out HB.out)); (case side2 => exact HC1_2.out); (case side3 => exact zc (Kd.C_below HR1_3.out HB.out)); (case side4 => exact HC1_3.out); rintro e w38 ⟨rfl, hb⟩; refine ⟨_, rfl, ?_⟩; replace BK76 := zw BK76 hb; replace BK77 := zw BK77 hb; replace HB := Aside0.mk (below_step zb hb); (try clear hb); (try clear hb2); (try clear hk); (try clear hi)))
   replace BK76 := Aside0.mk (blk_drew BK76.out)
   replace BK77 := Aside0.mk (blk_drew BK77.out)
   replace HB := Aside0.mk (below_drew1 HB.out)
   refine start_ (n := 6) (S := fun w' => w'.cell? ⟨gb76, 0, none⟩ = some (.int .i64 a0_0) ∧ w'.cell? ⟨gb76, 1, none⟩ = some (.int .i64 a0_1) ∧ w'.cell? ⟨gb76, 2, none⟩ = some (.slice A0_2 l0_2.length c0_2) ∧ w'.cell? ⟨gb76, 3, none⟩ = some (.slice A0_3 l0_3.length c0_3) ∧ w'.cell? ⟨gb77, 0, none⟩ = some (.int .i64 a1_0) ∧ w'.cell? ⟨gb77, 1, none⟩ = some (.int .i64 a1_1) ∧ w'.cell? ⟨gb77, 2, none⟩ = some (.slice A1_2 l1_2.length c1_2) ∧ w'.cell? ⟨gb77, 3, none⟩ = some (.slice A1_3 l1_3.length c1_3)) (ds := []) #[Z, Z, Z, Z, Z, Z] (by kernel_rfl) rfl rfl ⟨(blk_cell BK76.out 0).trans rfl, (blk_cell BK76.out 1).trans rfl, (blk_cell BK76.out 2).trans rfl, (blk_cell BK76.out 3).trans rfl, (blk_cell BK77.out 0).trans rfl, (blk_cell BK77.out 1).trans rfl, (blk_cell BK77.out 2).trans rfl, (blk_cell BK77.out 3).trans rfl⟩ (fun hHeld => ?_)
   generalize w38.drew = w39 at BK76 BK77 HB hHeld ⊢
   refine zt 0 20 ?_; refine zt 2 22 ?_
   refine one_ (i := 1) (N := some 21) #[Y, Y, Y, Z, Z, Z] rfl rfl (by kernel_rfl) (by decide) (fun K hK => ?_)
   refine goes_ Try.func13 (by kernel_rfl) rfl #[.agg #[.int .i64 a0_0, .int .i64 a0_1, .slice A0_2 l0_2.length c0_2, .slice A0_3 l0_3.length c0_3]] (by rfl) rfl rfl zm ?_
   with_reducible refine (laws_toEngine.calls k a0_0 a0_1 _ _ l0_2 _ _ l0_3 t524 t525 t526 t529 _ ?side1 ?side2 ?side3 ?side4 A19.out).mono ?_
   (case side1 => exact zc (Kd.C_below HR0_2.out HB.out))
   (case side2 => exact HC0_2.out)
   (case side3 => exact zc (Kd.C_below HR0_3.out HB.out))
   (case side4 => exact HC0_3.out)
   rintro e w40 ⟨v527, v530, rfl, ho0, ho1, hb⟩
   refine ⟨_, rfl, ?_⟩
   have HO85 := Aside0.mk (Kd.S_lower ho0 (below_size zb))
   have HO86 := Aside0.mk (Kd.S_lower ho1 (below_size zb))
   replace BK76 := zw BK76 hb
   replace BK77 := zw BK77 hb
   replace HB := Aside0.mk (below_step zb hb)
   (try clear hb)
   (try clear hb2)
   (try clear hk)
   (try clear hi)
   (try clear ho0)
   (try clear ho1)
   refine hK.out _ _ ⟨(blk_cell BK76.out 0).trans rfl, (blk_cell BK76.out 1).trans rfl, (blk_cell BK76.out 2).trans rfl, (blk_cell BK76.out 3).trans rfl, (blk_cell BK77.out 0).trans rfl, (blk_cell BK77.out 1).trans rfl, (blk_cell BK77.out 2).trans rfl, (blk_cell BK77.out 3).trans rfl⟩ (fun hHeld => ?_)
   clear hK K
   refine norm_ (a' := ?_) ?_ ?_
   rotate_left
   ·show Act.put _ (some 21) _ = _
    simp only [Act.put, List.setIfInBounds_toArray, List.set_cons_zero, List.set_cons_succ, i64_w, i32_w]
    rfl
   refine one_ (i := 3) (N := some 23) #[Y, Y, Y, Y, Z, Z] rfl rfl (by kernel_rfl) (by decide) (fun K hK => ?_)
   refine goes_ Try.func13 (by kernel_rfl) rfl #[.agg #[.int .i64 a1_0, .int .i64 a1_1, .slice A1_2 l1_2.length c1_2, .slice A1_3 l1_3.length c1_3]] (by rfl) rfl rfl zm ?_
   with_reducible refine (laws_toEngine.calls k a1_0 a1_1 _ _ l1_2 _ _ l1_3 t532 t533 t534 t537 _ ?side1 ?side2 ?side3 ?side4 A20.out).mono ?_
   (case side1 => exact zc (Kd.C_below HR1_2.out HB.out))
   (case side2 => exact HC1_2.out)
   (case side3 => exact zc (Kd.C_below HR1_3.out HB.out))
   (case side4 => exact HC1_3.out)
   rintro e w41 ⟨v535, v538, rfl, ho0, ho1, hb⟩
   refine ⟨_, rfl, ?_⟩
   have HO88 := Aside0.mk (Kd.S_lower (Kd.S_new' ho0 (Kd.S_lt (by (with_reducible repeat (first | apply Kd.S_alloc | apply Kd.S_drewN | apply Kd.S_drew)); exact HO85.out))) (below_size zb))
   have HO89 := Aside0.mk (Kd.S_lower (Kd.S_new' ho1 (Kd.S_lt (by (with_reducible repeat (first | apply Kd.S_alloc | apply Kd.S_drewN | apply Kd.S_drew)); exact HO86.out))) (below_size zb))
   replace HO85 := Aside0.mk (Kd.S_elder' (by (with_reducible repeat (first | apply Kd.S_alloc | apply Kd.S_drewN | apply Kd.S_drew)); exact HO85.out) (Kd.S_base ho0) hb)
   replace HO86 := Aside0.mk (Kd.S_elder' (by (with_reducible repeat (first | apply Kd.S_alloc | apply Kd.S_drewN | apply Kd.S_drew)); exact HO86.out) (Kd.S_base ho1) hb)
   replace BK76 := zw BK76 hb
   replace BK77 := zw BK77 hb
   replace HB := Aside0.mk (below_step zb hb)
   (try clear hb)
   (try clear hb2)
   (try clear hk)
   (try clear hi)
   (try clear ho0)
   (try clear ho1)
   obtain ⟨Ao42, co42, eo42⟩ := Kd.S_slice HO85.out
   (first | subst eo42 | (injection eo42 with f1_ f2_ f3_; have f4_ := f1_.symm; have f5_ := f3_.symm; clear f1_ f2_ f3_; subst f4_; subst f5_))
   obtain ⟨Ao43, co43, eo43⟩ := Kd.S_slice HO86.out
   (first | subst eo43 | (injection eo43 with f1_ f2_ f3_; have f4_ := f1_.symm; have f5_ := f3_.symm; clear f1_ f2_ f3_; subst f4_; subst f5_))
   obtain ⟨Ao44, co44, eo44⟩ := Kd.S_slice HO88.out
   (first | subst eo44 | (injection eo44 with f1_ f2_ f3_; have f4_ := f1_.symm; have f5_ := f3_.symm; clear f1_ f2_ f3_; subst f4_; subst f5_))
   obtain ⟨Ao45, co45, eo45⟩ := Kd.S_slice HO89.out
   (first | subst eo45 | (injection eo45 with f1_ f2_ f3_; have f4_ := f1_.symm; have f5_ := f3_.symm; clear f1_ f2_ f3_; subst f4_; subst f5_))
   refine hK.out _ _ ⟨(blk_cell BK76.out 0).trans rfl, (blk_cell BK76.out 1).trans rfl, (blk_cell BK76.out 2).trans rfl, (blk_cell BK76.out 3).trans rfl, (blk_cell BK77.out 0).trans rfl, (blk_cell BK77.out 1).trans rfl, (blk_cell BK77.out 2).trans rfl, (blk_cell BK77.out 3).trans rfl⟩ (fun hHeld => ?_)
   clear hK K
   refine norm_ (a' := ?_) ?_ ?_
   rotate_left
   ·show Act.put _ (some 23) _ = _
    simp only [Act.put, List.setIfInBounds_toArray, List.set_cons_zero, List.set_cons_succ, i64_w, i32_w]
    rfl
   refine one_ (i := 4) (N := some 24) #[Y, Y, Y, Y, Y, Z] rfl rfl (by kernel_rfl) (by decide) (fun K hK => ?_)
   refine goes_ Try.func41 (by kernel_rfl) rfl #[.agg #[.int .i64 t524, .int .i64 t525, .slice Ao42 t526.length co42, .slice Ao43 t529.length co43], .agg #[.int .i64 t532, .int .i64 t533, .slice Ao44 t534.length co44, .slice Ao45 t537.length co45]] (by rfl) rfl rfl zm ?_
   with_reducible refine (spec_SameAnswers.calls k t524 t525 _ _ t526 _ _ t529 t532 t533 _ _ t534 _ _ t537 t540 _ ?side1 ?side2 ?side3 ?side4 ?side5 ?side6 ?side7 ?side8 A21.out).mono ?_
   (case side1 => exact zc (Kd.S_reads' HO85.out).2.2)
   (case side2 => exact (Kd.S_reads' HO85.out).2.1)
   (case side3 => exact zc (Kd.S_reads' HO86.out).2.2)
   (case side4 => exact (Kd.S_reads' HO86.out).2.1)
   (case side5 => exact zc (Kd.S_reads' HO88.out).2.2)
   (case side6 => exact (Kd.S_reads' HO88.out).2.1)
   (case side7 => exact zc (Kd.S_reads' HO89.out).2.2)
   (case side8 => exact (Kd.S_reads' HO89.out).2.1)
   rintro e w46 ⟨rfl, hb⟩
   refine ⟨_, rfl, ?_⟩
   replace HO85 := Aside0.mk (Kd.S_below (by (with_reducible repeat (first | apply Kd.S_alloc | apply Kd.S_drewN | apply Kd.S_drew)); exact HO85.out) hb)
   replace HO86 := Aside0.mk (Kd.S_below (by (with_reducible repeat (first | apply Kd.S_alloc | apply Kd.S_drewN | apply Kd.S_drew)); exact HO86.out) hb)
   replace HO88 := Aside0.mk (Kd.S_below (by (with_reducible repeat (first | apply Kd.S_alloc | apply Kd.S_drewN | apply Kd.S_drew)); exact HO88.out) hb)
   replace HO89 := Aside0.mk (Kd.S_below (by (with_reducible repeat (first | apply Kd.S_alloc | apply Kd.S_drewN | apply Kd.S_drew)); exact HO89.out) hb)
   replace BK76 := zw BK76 hb
   replace BK77 := zw BK77 hb
   replace HB := Aside0.mk (below_step zb hb)
   (try clear hb)
   (try clear hb2)
   (try clear hk)
   (try clear hi)
   refine hK.out _ _ ⟨(blk_cell BK76.out 0).trans rfl, (blk_cell BK76.out 1).trans rfl, (blk_cell BK76.out 2).trans rfl, (blk_cell BK76.out 3).trans rfl, (blk_cell BK77.out 0).trans rfl, (blk_cell BK77.out 1).trans rfl, (blk_cell BK77.out 2).trans rfl, (blk_cell BK77.out 3).trans rfl⟩ (fun hHeld => ?_)
   clear hK K
   refine norm_ (a' := ?_) ?_ ?_
   rotate_left
   ·show Act.put _ (some 24) _ = _
    simp only [Act.put, List.setIfInBounds_toArray, List.set_cons_zero, List.set_cons_succ, i64_w, i32_w]
    rfl
   refine zp 5 6 ?_
   refine done_ (by kernel_rfl) ?_
   obtain ⟨z47_0, z47_1, z47_2, z47_3, j47_0, j47_1, j47_2, j47_3⟩ := Lv.blks4 BK76.out
   try go_wp2_with (first | ((with_reducible refine gate_callee (f := 13) rfl ?_); refine zj 26 Try.func13 #[.agg #[.int .i64 a0_0, .int .i64 a0_1, .slice A0_2 l0_2.length c0_2, .slice A0_3 l0_3.length c0_3]] ?_; (with_reducible refine (laws_toEngine.calls k a0_0 a0_1 _ _ l0_2 _ _ l0_3 t81 t93 t92 t94 _ ?side1 ?side2 ?side3 ?side4 A22.out).mono ?_); (case side1 => exact zc (Kd.C_below HR0_2.out HB.out)); (case side2 => exact HC0_2.out); (case side3 => exact zc (Kd.C_below HR0_3.out HB.out)); (case side4 => exact HC0_3.out); rintro e w48 ⟨v544, v547, rfl, ho0, ho1, hb⟩; refine ⟨_, rfl, ?_⟩; have HO90 := Aside0.mk (Kd.S_lower (Kd.S_new' (Kd.S_new' ho0 (Kd.S_lt (by (with_reducible repeat (first | apply Kd.S_alloc | apply Kd.S_drewN | apply Kd.S_drew)); exact HO85.out))) (Kd.S_lt (by (with_reducible repeat (first | apply Kd.S_alloc | apply Kd.S_drewN | apply Kd.S_drew)); exact HO88.out))) (below_size zb)); have HO91 := Aside0.mk (Kd.S_lower (Kd.S_new' (Kd.S_new' ho1 (Kd.S_lt (by (with_reducible repeat (first | apply Kd.S_alloc | apply Kd.S_drewN | apply Kd.S_drew)); exact HO86.out))) (Kd.S_lt (by (with_reducible repeat (first | apply Kd.S_alloc | apply Kd.S_drewN | apply Kd.S_drew)); exact HO89.out))) (below_size zb)); replace HO85 := Aside0.mk (Kd.S_elder' (by (with_reducible repeat (first | apply Kd.S_alloc | apply Kd.S_drewN | apply Kd.S_drew)); exact HO85.out) (Kd.S_base ho0) hb); replace HO86 := Aside0.mk (Kd.S_elder' (by (with_reducible repeat (first | apply Kd.S_alloc | apply Kd.S_drewN | apply Kd.S_drew)); exact HO86.out) (Kd.S_base ho1) hb); replace HO88 := Aside0.mk (Kd.S_elder' (by (with_reducible repeat (first | apply Kd.S_alloc | apply Kd.S_drewN | apply Kd.S_drew)); exact HO88.out) (Kd.S_base ho0) hb); replace HO89 := Aside0.mk (Kd.S_elder' (by (with_reducible repeat (first | apply Kd.S_alloc | apply Kd.S_drewN | apply Kd.S_drew)); exact HO89.out) (Kd.S_base ho1) hb); replace BK76 := zw BK76 hb; replace BK77 := zw BK77 hb; replace HB := Aside0.mk (below_step zb hb); (try clear hb); (try clear hb2); (try clear hk); (try clear hi); (try clear ho0); (try clear ho1)) | ((with_reducible refine gate_dst (N := 7) rfl ?_); refine zE 7 31 #[.int .i64 0, .int .i64 0, .slice none 0 0, .slice none 0 0] ?_; intro gb78 hg w49 hbox hb; have BK78 := Aside0.mk hbox; have GW78 := Aside0.mk (zh hg : w.heap.size ≤ gb78); have NB520_549 := zl BK76 hg; have NB549_520 := zL BK76 hg; have NB521_549 := zl BK77 hg; have NB549_521 := zL BK77 hg; have GE78 := GW78; replace HO85 := Aside0.mk (Kd.S_below (by (with_reducible repeat (first | apply Kd.S_alloc | apply Kd.S_drewN | apply Kd.S_drew)); exact HO85.out) hb); replace HO86 := Aside0.mk (Kd.S_below (by (with_reducible repeat (first | apply Kd.S_alloc | apply Kd.S_drewN | apply Kd.S_drew)); exact HO86.out) hb); replace HO88 := Aside0.mk (Kd.S_below (by (with_reducible repeat (first | apply Kd.S_alloc | apply Kd.S_drewN | apply Kd.S_drew)); exact HO88.out) hb); replace HO89 := Aside0.mk (Kd.S_below (by (with_reducible repeat (first | apply Kd.S_alloc | apply Kd.S_drewN | apply Kd.S_drew)); exact HO89.out) hb); replace HO90 := Aside0.mk (Kd.S_below (by (with_reducible repeat (first | apply Kd.S_alloc | apply Kd.S_drewN | apply Kd.S_drew)); exact HO90.out) hb); replace HO91 := Aside0.mk (Kd.S_below (by (with_reducible repeat (first | apply Kd.S_alloc | apply Kd.S_drewN | apply Kd.S_drew)); exact HO91.out) hb); replace BK76 := zw BK76 hb; replace BK77 := zw BK77 hb; replace HB := Aside0.mk (below_step zb hb); clear hb hbox hg; have hnb50 := NB549_520.out; have hnc50 := NB520_549.out; have hnb51 := NB549_521.out; have hnc51 := NB521_549.out; obtain ⟨z52_0, z52_1, z52_2, z52_3, j52_0, j52_1, j52_2, j52_3⟩ := Lv.blks4 BK78.out; obtain ⟨Ao53, co53, eo53⟩ := Kd.S_slice HO90.out; subst eo53; obtain ⟨Ao54, co54, eo54⟩ := Kd.S_slice HO91.out; subst eo54; obtain ⟨z55_0, z55_1, z55_2, z55_3, j55_0, j55_1, j55_2, j55_3⟩ := Lv.blks4 BK77.out) | ((with_reducible refine gate_callee (f := 13) rfl ?_); refine zj 28 Try.func13 #[.agg #[.int .i64 a1_0, .int .i64 a1_1, .slice A1_2 l1_2.length c1_2, .slice A1_3 l1_3.length c1_3]] ?_; (with_reducible refine (laws_toEngine.calls k a1_0 a1_1 _ _ l1_2 _ _ l1_3 t80 t98 t95 t99 _ ?side1 ?side2 ?side3 ?side4 A23.out).mono ?_); (case side1 => exact Kd.C_below HR1_2.out zb); (case side2 => exact HC1_2.out); (case side3 => exact Kd.C_below HR1_3.out zb); (case side4 => exact HC1_3.out); rintro e w56 ⟨v553, v556, rfl, ho0, ho1, hb⟩; refine ⟨_, rfl, ?_⟩; have n0_ := Aside0.mk (Kd.S_elder' (by (with_reducible repeat (first | apply Kd.S_alloc | apply Kd.S_drewN | apply Kd.S_drew)); exact (Kd.S_mono (Kd.S_far (p := ⟨gb78, 3, none⟩) (Kd.S_far (p := ⟨gb78, 2, none⟩) (Kd.S_far (p := ⟨gb78, 1, none⟩) (Kd.S_far (p := ⟨gb78, 0, none⟩) (Kd.S_types HO85.out BK78.out (by decide)) (fun _ hk => hk.2) (.int .i64 t81)) (fun _ hk => hk.2) (.int .i64 t93)) (fun _ hk => hk.2) (.slice Ao53 t92.length co53)) (fun _ hk => hk.2) (.slice Ao54 t94.length co54)) (fun _ h_ => h_.1))) (Kd.S_base ho0) hb); have n1_ := Aside0.mk (Kd.S_elder' (by (with_reducible repeat (first | apply Kd.S_alloc | apply Kd.S_drewN | apply Kd.S_drew)); exact (Kd.S_mono (Kd.S_far (p := ⟨gb78, 3, none⟩) (Kd.S_far (p := ⟨gb78, 2, none⟩) (Kd.S_far (p := ⟨gb78, 1, none⟩) (Kd.S_far (p := ⟨gb78, 0, none⟩) (Kd.S_types HO86.out BK78.out (by decide)) (fun _ hk => hk.2) (.int .i64 t81)) (fun _ hk => hk.2) (.int .i64 t93)) (fun _ hk => hk.2) (.slice Ao53 t92.length co53)) (fun _ hk => hk.2) (.slice Ao54 t94.length co54)) (fun _ h_ => h_.1))) (Kd.S_base ho1) hb); have n2_ := Aside0.mk (Kd.S_elder' (by (with_reducible repeat (first | apply Kd.S_alloc | apply Kd.S_drewN | apply Kd.S_drew)); exact (Kd.S_mono (Kd.S_far (p := ⟨gb78, 3, none⟩) (Kd.S_far (p := ⟨gb78, 2, none⟩) (Kd.S_far (p := ⟨gb78, 1, none⟩) (Kd.S_far (p := ⟨gb78, 0, none⟩) (Kd.S_types HO88.out BK78.out (by decide)) (fun _ hk => hk.2) (.int .i64 t81)) (fun _ hk => hk.2) (.int .i64 t93)) (fun _ hk => hk.2) (.slice Ao53 t92.length co53)) (fun _ hk => hk.2) (.slice Ao54 t94.length co54)) (fun _ h_ => h_.1))) (Kd.S_base ho0) hb); have n3_ := Aside0.mk (Kd.S_elder' (by (with_reducible repeat (first | apply Kd.S_alloc | apply Kd.S_drewN | apply Kd.S_drew)); exact (Kd.S_mono (Kd.S_far (p := ⟨gb78, 3, none⟩) (Kd.S_far (p := ⟨gb78, 2, none⟩) (Kd.S_far (p := ⟨gb78, 1, none⟩) (Kd.S_far (p := ⟨gb78, 0, none⟩) (Kd.S_types HO89.out BK78.out (by decide)) (fun _ hk => hk.2) (.int .i64 t81)) (fun _ hk => hk.2) (.int .i64 t93)) (fun _ hk => hk.2) (.slice Ao53 t92.length co53)) (fun _ hk => hk.2) (.slice Ao54 t94.length co54)) (fun _ h_ => h_.1))) (Kd.S_base ho1) hb); have n4_ := Aside0.mk (Kd.S_elder' (by (with_reducible repeat (first | apply Kd.S_alloc | apply Kd.S_drewN | apply Kd.S_drew)); exact (Kd.S_mono (Kd.S_far (p := ⟨gb78, 3, none⟩) (Kd.S_far (p := ⟨gb78, 2, none⟩) (Kd.S_far (p := ⟨gb78, 1, none⟩) (Kd.S_far (p := ⟨gb78, 0, none⟩) (Kd.S_types HO90.out BK78.out (by decide)) (fun _ hk => hk.2) (.int .i64 t81)) (fun _ hk => hk.2) (.int .i64 t93)) (fun _ hk => hk.2) (.slice Ao53 t92.length co53)) (fun _ hk => hk.2) (.slice Ao54 t94.length co54)) (fun _ h_ => h_.1))) (Kd.S_base ho0) hb); have n5_ := Aside0.mk (Kd.S_elder' (by (with_reducible repeat (first | apply Kd.S_alloc | apply Kd.S_drewN | apply Kd.S_drew)); exact (Kd.S_mono (Kd.S_far (p := ⟨gb78, 3, none⟩) (Kd.S_far (p := ⟨gb78, 2, none⟩) (Kd.S_far (p := ⟨gb78, 1, none⟩) (Kd.S_far (p := ⟨gb78, 0, none⟩) (Kd.S_types HO91.out BK78.out (by decide)) (fun _ hk => hk.2) (.int .i64 t81)) (fun _ hk => hk.2) (.int .i64 t93)) (fun _ hk => hk.2) (.slice Ao53 t92.length co53)) (fun _ hk => hk.2) (.slice Ao54 t94.length co54)) (fun _ h_ => h_.1))) (Kd.S_base ho1) hb); have n6_ := Aside0.mk (Kd.S_lower (Kd.S_new' (Kd.S_new' (Kd.S_new' ho0 (Kd.S_lt (by (with_reducible repeat (first | apply Kd.S_alloc | apply Kd.S_drewN | apply Kd.S_drew)); exact (Kd.S_mono (Kd.S_far (p := ⟨gb78, 3, none⟩) (Kd.S_far (p := ⟨gb78, 2, none⟩) (Kd.S_far (p := ⟨gb78, 1, none⟩) (Kd.S_far (p := ⟨gb78, 0, none⟩) (Kd.S_types HO85.out BK78.out (by decide)) (fun _ hk => hk.2) (.int .i64 t81)) (fun _ hk => hk.2) (.int .i64 t93)) (fun _ hk => hk.2) (.slice Ao53 t92.length co53)) (fun _ hk => hk.2) (.slice Ao54 t94.length co54)) (fun _ h_ => h_.1))))) (Kd.S_lt (by (with_reducible repeat (first | apply Kd.S_alloc | apply Kd.S_drewN | apply Kd.S_drew)); exact (Kd.S_mono (Kd.S_far (p := ⟨gb78, 3, none⟩) (Kd.S_far (p := ⟨gb78, 2, none⟩) (Kd.S_far (p := ⟨gb78, 1, none⟩) (Kd.S_far (p := ⟨gb78, 0, none⟩) (Kd.S_types HO88.out BK78.out (by decide)) (fun _ hk => hk.2) (.int .i64 t81)) (fun _ hk => hk.2) (.int .i64 t93)) (fun _ hk => hk.2) (.slice Ao53 t92.length co53)) (fun _ hk => hk.2) (.slice Ao54 t94.length co54)) (fun _ h_ => h_.1))))) (Kd.S_lt (by (with_reducible repeat (first | apply Kd.S_alloc | apply Kd.S_drewN | apply Kd.S_drew)); exact (Kd.S_mono (Kd.S_far (p := ⟨gb78, 3, none⟩) (Kd.S_far (p := ⟨gb78, 2, none⟩) (Kd.S_far (p := ⟨gb78, 1, none⟩) (Kd.S_far (p := ⟨gb78, 0, none⟩) (Kd.S_types HO90.out BK78.out (by decide)) (fun _ hk => hk.2) (.int .i64 t81)) (fun _ hk => hk.2) (.int .i64 t93)) (fun _ hk => hk.2) (.slice Ao53 t92.length co53)) (fun _ hk => hk.2) (.slice Ao54 t94.length co54)) (fun _ h_ => h_.1))))) (below_size zb)); have n7_ := Aside0.mk (Kd.S_lower (Kd.S_new' (Kd.S_new' (Kd.S_new' ho1 (Kd.S_lt (by (with_reducible repeat (first | apply Kd.S_alloc | apply Kd.S_drewN | apply Kd.S_drew)); exact (Kd.S_mono (Kd.S_far (p := ⟨gb78, 3, none⟩) (Kd.S_far (p := ⟨gb78, 2, none⟩) (Kd.S_far (p := ⟨gb78, 1, none⟩) (Kd.S_far (p := ⟨gb78, 0, none⟩) (Kd.S_types HO86.out BK78.out (by decide)) (fun _ hk => hk.2) (.int .i64 t81)) (fun _ hk => hk.2) (.int .i64 t93)) (fun _ hk => hk.2) (.slice Ao53 t92.length co53)) (fun _ hk => hk.2) (.slice Ao54 t94.length co54)) (fun _ h_ => h_.1))))) (Kd.S_lt (by (with_reducible repeat (first | apply Kd.S_alloc | apply Kd.S_drewN | apply Kd.S_drew)); exact (Kd.S_mono (Kd.S_far (p := ⟨gb78, 3, none⟩) (Kd.S_far (p := ⟨gb78, 2, none⟩) (Kd.S_far (p := ⟨gb78, 1, none⟩) (Kd.S_far (p := ⟨gb78, 0, none⟩) (Kd.S_types HO89.out BK78.out (by decide)) (fun _ hk => hk.2) (.int .i64 t81)) (fun _ hk => hk.2) (.int .i64 t93)) (fun _ hk => hk.2) (.slice Ao53 t92.length co53)) (fun _ hk => hk.2) (.slice Ao54 t94.length co54)) (fun _ h_ => h_.1))))) (Kd.S_lt (by (with_reducible repeat (first | apply Kd.S_alloc | apply Kd.S_drewN | apply Kd.S_drew)); exact (Kd.S_mono (Kd.S_far (p := ⟨gb78, 3, none⟩) (Kd.S_far (p := ⟨gb78, 2, none⟩) (Kd.S_far (p := ⟨gb78, 1, none⟩) (Kd.S_far (p := ⟨gb78, 0, none⟩) (Kd.S_types HO91.out BK78.out (by decide)) (fun _ hk => hk.2) (.int .i64 t81)) (fun _ hk => hk.2) (.int .i64 t93)) (fun _ hk => hk.2) (.slice Ao53 t92.length co53)) (fun _ hk => hk.2) (.slice Ao54 t94.length co54)) (fun _ h_ => h_.1))))) (below_size zb)); have n8_ := Aside0.mk (blk_below (g := gb76) (o := .cells #[.int .i64 a0_0, .int .i64 a0_1, .slice A0_2 l0_2.length c0_2, .slice A0_3 l0_3.length c0_3] 25 (0, 0)) (by refine zQ ?_; refine blk_far ?_ NB520_549.out _; refine zQ ?_; refine blk_far ?_ NB520_549.out _; refine zQ ?_; refine blk_far ?_ NB520_549.out _; refine zQ ?_; refine blk_far ?_ NB520_549.out _; refine zQ ?_; exact BK76.out) hb); have n9_ := Aside0.mk (blk_below (g := gb77) (o := .cells #[.int .i64 a1_0, .int .i64 a1_1, .slice A1_2 l1_2.length c1_2, .slice A1_3 l1_3.length c1_3] 25 (0, 0)) (by refine zQ ?_; refine blk_far ?_ NB521_549.out _; refine zQ ?_; refine blk_far ?_ NB521_549.out _; refine zQ ?_; refine blk_far ?_ NB521_549.out _; refine zQ ?_; refine blk_far ?_ NB521_549.out _; refine zQ ?_; exact BK77.out) hb); have n10_ := Aside0.mk (blk_below (g := gb78) (o := .cells #[.int .i64 t81, .int .i64 t93, .slice Ao53 t92.length co53, .slice Ao54 t94.length co54] 31 (0, 0)) (by refine zQ ?_; refine blk_put (cs := #[.int .i64 t81, .int .i64 t93, .slice Ao53 t92.length co53, .slice none 0 0]) ?_ 3 _ rfl; refine zQ ?_; refine blk_put (cs := #[.int .i64 t81, .int .i64 t93, .slice none 0 0, .slice none 0 0]) ?_ 2 _ rfl; refine zQ ?_; refine blk_put (cs := #[.int .i64 t81, .int .i64 0, .slice none 0 0, .slice none 0 0]) ?_ 1 _ rfl; refine zQ ?_; refine blk_put (cs := #[.int .i64 0, .int .i64 0, .slice none 0 0, .slice none 0 0]) ?_ 0 _ rfl; refine zQ ?_; exact BK78.out) hb); have n11_ := Aside0.mk (below_step zb hb); clear HO85; clear HO86; clear HO88; clear HO89; clear HO90; clear HO91; clear BK76; clear BK77; clear BK78; clear HB; have HO85 := n0_; have HO86 := n1_; have HO88 := n2_; have HO89 := n3_; have HO90 := n4_; have HO91 := n5_; have HO96 := n6_; have HO97 := n7_; have BK76 := n8_; have BK77 := n9_; have BK78 := n10_; have HB := n11_; clear n0_ n1_ n2_ n3_ n4_ n5_ n6_ n7_ n8_ n9_ n10_ n11_; (try clear hb); (try clear hb2); (try clear hk); (try clear hi); (try clear ho0); (try clear ho1)) | ((with_reducible refine gate_dst (N := 8) rfl ?_); refine zE 8 31 #[.int .i64 0, .int .i64 0, .slice none 0 0, .slice none 0 0] ?_; intro gb79 hg w57 hbox hb; have BK79 := Aside0.mk hbox; have GW79 := Aside0.mk (zh hg : w.heap.size ≤ gb79); have NB520_558 := zl BK76 hg; have NB558_520 := zL BK76 hg; have NB521_558 := zl BK77 hg; have NB558_521 := zL BK77 hg; have NB549_558 := zl BK78 hg; have NB558_549 := zL BK78 hg; have GE79 := GW79; replace HO85 := Aside0.mk (Kd.S_below (by (with_reducible repeat (first | apply Kd.S_alloc | apply Kd.S_drewN | apply Kd.S_drew)); exact HO85.out) hb); replace HO86 := Aside0.mk (Kd.S_below (by (with_reducible repeat (first | apply Kd.S_alloc | apply Kd.S_drewN | apply Kd.S_drew)); exact HO86.out) hb); replace HO88 := Aside0.mk (Kd.S_below (by (with_reducible repeat (first | apply Kd.S_alloc | apply Kd.S_drewN | apply Kd.S_drew)); exact HO88.out) hb); replace HO89 := Aside0.mk (Kd.S_below (by (with_reducible repeat (first | apply Kd.S_alloc | apply Kd.S_drewN | apply Kd.S_drew)); exact HO89.out) hb); replace HO90 := Aside0.mk (Kd.S_below (by (with_reducible repeat (first | apply Kd.S_alloc | apply Kd.S_drewN | apply Kd.S_drew)); exact HO90.out) hb); replace HO91 := Aside0.mk (Kd.S_below (by (with_reducible repeat (first | apply Kd.S_alloc | apply Kd.S_drewN | apply Kd.S_drew)); exact HO91.out) hb); replace HO96 := Aside0.mk (Kd.S_below (by (with_reducible repeat (first | apply Kd.S_alloc | apply Kd.S_drewN | apply Kd.S_drew)); exact HO96.out) hb); replace HO97 := Aside0.mk (Kd.S_below (by (with_reducible repeat (first | apply Kd.S_alloc | apply Kd.S_drewN | apply Kd.S_drew)); exact HO97.out) hb); replace BK76 := zw BK76 hb; replace BK77 := zw BK77 hb; replace BK78 := zw BK78 hb; replace HB := Aside0.mk (below_step zb hb); clear hb hbox hg; have hnb58 := NB558_520.out; have hnc58 := NB520_558.out; have hnb59 := NB558_521.out; have hnc59 := NB521_558.out; have hnb60 := NB558_549.out; have hnc60 := NB549_558.out; obtain ⟨z61_0, z61_1, z61_2, z61_3, j61_0, j61_1, j61_2, j61_3⟩ := Lv.blks4 BK79.out; obtain ⟨Ao62, co62, eo62⟩ := Kd.S_slice HO96.out; subst eo62; obtain ⟨Ao63, co63, eo63⟩ := Kd.S_slice HO97.out; subst eo63; obtain ⟨z64_0, z64_1, z64_2, z64_3, j64_0, j64_1, j64_2, j64_3⟩ := Lv.blks4 BK78.out) | ((with_reducible refine gate_callee (f := 42) rfl ?_); refine zj 31 Try.func42 #[.agg #[.int .i64 t81, .int .i64 t93, .slice Ao53 t92.length co53, .slice Ao54 t94.length co54], .agg #[.int .i64 t80, .int .i64 t98, .slice Ao62 t95.length co62, .slice Ao63 t99.length co63]] ?_; (with_reducible refine (impl_SameAnswers.calls k t81 t93 _ _ t92 _ _ t94 t80 t98 _ _ t95 _ _ t99 t559 _ ?side1 ?side2 ?side3 ?side4 ?side5 ?side6 ?side7 ?side8 A24.out).mono ?_); (case side1 => refine (Kd.S_reads' (e := 83) (base := w.heap.size) (ok := fun k_ => (((True ∧ some k_ ≠ (.slice Ao42 t526.length co42 : Value).ownBlock) ∧ some k_ ≠ (.slice Ao44 t534.length co44 : Value).ownBlock) ∧ some k_ ≠ (.slice Ao62 t95.length co62 : Value).ownBlock)) (n := t92.length) (c := co53) ?_).2.2; exact (by (with_reducible repeat (first | apply Kd.S_alloc | apply Kd.S_drewN | apply Kd.S_drew)); exact (Kd.S_mono (Kd.S_far (p := ⟨gb79, 3, none⟩) (Kd.S_far (p := ⟨gb79, 2, none⟩) (Kd.S_far (p := ⟨gb79, 1, none⟩) (Kd.S_far (p := ⟨gb79, 0, none⟩) (Kd.S_types HO90.out BK79.out (by decide)) (fun _ hk => hk.2) (.int .i64 t80)) (fun _ hk => hk.2) (.int .i64 t98)) (fun _ hk => hk.2) (.slice Ao62 t95.length co62)) (fun _ hk => hk.2) (.slice Ao63 t99.length co63)) (fun _ h_ => h_.1)))); (case side2 => exact (Kd.S_reads' HO90.out).2.1); (case side3 => refine (Kd.S_reads' (e := 87) (base := w.heap.size) (ok := fun k_ => (((True ∧ some k_ ≠ (.slice Ao43 t529.length co43 : Value).ownBlock) ∧ some k_ ≠ (.slice Ao45 t537.length co45 : Value).ownBlock) ∧ some k_ ≠ (.slice Ao63 t99.length co63 : Value).ownBlock)) (n := t94.length) (c := co54) ?_).2.2; exact (by (with_reducible repeat (first | apply Kd.S_alloc | apply Kd.S_drewN | apply Kd.S_drew)); exact (Kd.S_mono (Kd.S_far (p := ⟨gb79, 3, none⟩) (Kd.S_far (p := ⟨gb79, 2, none⟩) (Kd.S_far (p := ⟨gb79, 1, none⟩) (Kd.S_far (p := ⟨gb79, 0, none⟩) (Kd.S_types HO91.out BK79.out (by decide)) (fun _ hk => hk.2) (.int .i64 t80)) (fun _ hk => hk.2) (.int .i64 t98)) (fun _ hk => hk.2) (.slice Ao62 t95.length co62)) (fun _ hk => hk.2) (.slice Ao63 t99.length co63)) (fun _ h_ => h_.1)))); (case side4 => exact (Kd.S_reads' HO91.out).2.1); (case side5 => refine (Kd.S_reads' (e := 83) (base := w.heap.size) (ok := fun k_ => (((True ∧ some k_ ≠ (.slice Ao42 t526.length co42 : Value).ownBlock) ∧ some k_ ≠ (.slice Ao44 t534.length co44 : Value).ownBlock) ∧ some k_ ≠ (.slice Ao53 t92.length co53 : Value).ownBlock)) (n := t95.length) (c := co62) ?_).2.2; exact (by (with_reducible repeat (first | apply Kd.S_alloc | apply Kd.S_drewN | apply Kd.S_drew)); exact (Kd.S_mono (Kd.S_far (p := ⟨gb79, 3, none⟩) (Kd.S_far (p := ⟨gb79, 2, none⟩) (Kd.S_far (p := ⟨gb79, 1, none⟩) (Kd.S_far (p := ⟨gb79, 0, none⟩) (Kd.S_types HO96.out BK79.out (by decide)) (fun _ hk => hk.2) (.int .i64 t80)) (fun _ hk => hk.2) (.int .i64 t98)) (fun _ hk => hk.2) (.slice Ao62 t95.length co62)) (fun _ hk => hk.2) (.slice Ao63 t99.length co63)) (fun _ h_ => h_.1)))); (case side6 => exact (Kd.S_reads' HO96.out).2.1); (case side7 => refine (Kd.S_reads' (e := 87) (base := w.heap.size) (ok := fun k_ => (((True ∧ some k_ ≠ (.slice Ao43 t529.length co43 : Value).ownBlock) ∧ some k_ ≠ (.slice Ao45 t537.length co45 : Value).ownBlock) ∧ some k_ ≠ (.slice Ao54 t94.length co54 : Value).ownBlock)) (n := t99.length) (c := co63) ?_).2.2; exact (by (with_reducible repeat (first | apply Kd.S_alloc | apply Kd.S_drewN | apply Kd.S_drew)); exact (Kd.S_mono (Kd.S_far (p := ⟨gb79, 3, none⟩) (Kd.S_far (p := ⟨gb79, 2, none⟩) (Kd.S_far (p := ⟨gb79, 1, none⟩) (Kd.S_far (p := ⟨gb79, 0, none⟩) (Kd.S_types HO97.out BK79.out (by decide)) (fun _ hk => hk.2) (.int .i64 t80)) (fun _ hk => hk.2) (.int .i64 t98)) (fun _ hk => hk.2) (.slice Ao62 t95.length co62)) (fun _ hk => hk.2) (.slice Ao63 t99.length co63)) (fun _ h_ => h_.1)))); (case side8 => exact (Kd.S_reads' HO97.out).2.1); rintro e w65 ⟨rfl, hb⟩; refine ⟨_, rfl, ?_⟩; have n0_ := Aside0.mk (Kd.S_below (by (with_reducible repeat (first | apply Kd.S_alloc | apply Kd.S_drewN | apply Kd.S_drew)); exact (Kd.S_mono (Kd.S_far (p := ⟨gb79, 3, none⟩) (Kd.S_far (p := ⟨gb79, 2, none⟩) (Kd.S_far (p := ⟨gb79, 1, none⟩) (Kd.S_far (p := ⟨gb79, 0, none⟩) (Kd.S_types HO85.out BK79.out (by decide)) (fun _ hk => hk.2) (.int .i64 t80)) (fun _ hk => hk.2) (.int .i64 t98)) (fun _ hk => hk.2) (.slice Ao62 t95.length co62)) (fun _ hk => hk.2) (.slice Ao63 t99.length co63)) (fun _ h_ => h_.1))) hb); have n1_ := Aside0.mk (Kd.S_below (by (with_reducible repeat (first | apply Kd.S_alloc | apply Kd.S_drewN | apply Kd.S_drew)); exact (Kd.S_mono (Kd.S_far (p := ⟨gb79, 3, none⟩) (Kd.S_far (p := ⟨gb79, 2, none⟩) (Kd.S_far (p := ⟨gb79, 1, none⟩) (Kd.S_far (p := ⟨gb79, 0, none⟩) (Kd.S_types HO86.out BK79.out (by decide)) (fun _ hk => hk.2) (.int .i64 t80)) (fun _ hk => hk.2) (.int .i64 t98)) (fun _ hk => hk.2) (.slice Ao62 t95.length co62)) (fun _ hk => hk.2) (.slice Ao63 t99.length co63)) (fun _ h_ => h_.1))) hb); have n2_ := Aside0.mk (Kd.S_below (by (with_reducible repeat (first | apply Kd.S_alloc | apply Kd.S_drewN | apply Kd.S_drew)); exact (Kd.S_mono (Kd.S_far (p := ⟨gb79, 3, none⟩) (Kd.S_far (p := ⟨gb79, 2, none⟩) (Kd.S_far (p := ⟨gb79, 1, none⟩) (Kd.S_far (p := ⟨gb79, 0, none⟩) (Kd.S_types HO88.out BK79.out (by decide)) (fun _ hk => hk.2) (.int .i64 t80)) (fun _ hk => hk.2) (.int .i64 t98)) (fun _ hk => hk.2) (.slice Ao62 t95.length co62)) (fun _ hk => hk.2) (.slice Ao63 t99.length co63)) (fun _ h_ => h_.1))) hb); have n3_ := Aside0.mk (Kd.S_below (by (with_reducible repeat (first | apply Kd.S_alloc | apply Kd.S_drewN | apply Kd.S_drew)); exact (Kd.S_mono (Kd.S_far (p := ⟨gb79, 3, none⟩) (Kd.S_far (p := ⟨gb79, 2, none⟩) (Kd.S_far (p := ⟨gb79, 1, none⟩) (Kd.S_far (p := ⟨gb79, 0, none⟩) (Kd.S_types HO89.out BK79.out (by decide)) (fun _ hk => hk.2) (.int .i64 t80)) (fun _ hk => hk.2) (.int .i64 t98)) (fun _ hk => hk.2) (.slice Ao62 t95.length co62)) (fun _ hk => hk.2) (.slice Ao63 t99.length co63)) (fun _ h_ => h_.1))) hb); have n4_ := Aside0.mk (Kd.S_below (by (with_reducible repeat (first | apply Kd.S_alloc | apply Kd.S_drewN | apply Kd.S_drew)); exact (Kd.S_mono (Kd.S_far (p := ⟨gb79, 3, none⟩) (Kd.S_far (p := ⟨gb79, 2, none⟩) (Kd.S_far (p := ⟨gb79, 1, none⟩) (Kd.S_far (p := ⟨gb79, 0, none⟩) (Kd.S_types HO90.out BK79.out (by decide)) (fun _ hk => hk.2) (.int .i64 t80)) (fun _ hk => hk.2) (.int .i64 t98)) (fun _ hk => hk.2) (.slice Ao62 t95.length co62)) (fun _ hk => hk.2) (.slice Ao63 t99.length co63)) (fun _ h_ => h_.1))) hb); have n5_ := Aside0.mk (Kd.S_below (by (with_reducible repeat (first | apply Kd.S_alloc | apply Kd.S_drewN | apply Kd.S_drew)); exact (Kd.S_mono (Kd.S_far (p := ⟨gb79, 3, none⟩) (Kd.S_far (p := ⟨gb79, 2, none⟩) (Kd.S_far (p := ⟨gb79, 1, none⟩) (Kd.S_far (p := ⟨gb79, 0, none⟩) (Kd.S_types HO91.out BK79.out (by decide)) (fun _ hk => hk.2) (.int .i64 t80)) (fun _ hk => hk.2) (.int .i64 t98)) (fun _ hk => hk.2) (.slice Ao62 t95.length co62)) (fun _ hk => hk.2) (.slice Ao63 t99.length co63)) (fun _ h_ => h_.1))) hb); have n6_ := Aside0.mk (Kd.S_below (by (with_reducible repeat (first | apply Kd.S_alloc | apply Kd.S_drewN | apply Kd.S_drew)); exact (Kd.S_mono (Kd.S_far (p := ⟨gb79, 3, none⟩) (Kd.S_far (p := ⟨gb79, 2, none⟩) (Kd.S_far (p := ⟨gb79, 1, none⟩) (Kd.S_far (p := ⟨gb79, 0, none⟩) (Kd.S_types HO96.out BK79.out (by decide)) (fun _ hk => hk.2) (.int .i64 t80)) (fun _ hk => hk.2) (.int .i64 t98)) (fun _ hk => hk.2) (.slice Ao62 t95.length co62)) (fun _ hk => hk.2) (.slice Ao63 t99.length co63)) (fun _ h_ => h_.1))) hb); have n7_ := Aside0.mk (Kd.S_below (by (with_reducible repeat (first | apply Kd.S_alloc | apply Kd.S_drewN | apply Kd.S_drew)); exact (Kd.S_mono (Kd.S_far (p := ⟨gb79, 3, none⟩) (Kd.S_far (p := ⟨gb79, 2, none⟩) (Kd.S_far (p := ⟨gb79, 1, none⟩) (Kd.S_far (p := ⟨gb79, 0, none⟩) (Kd.S_types HO97.out BK79.out (by decide)) (fun _ hk => hk.2) (.int .i64 t80)) (fun _ hk => hk.2) (.int .i64 t98)) (fun _ hk => hk.2) (.slice Ao62 t95.length co62)) (fun _ hk => hk.2) (.slice Ao63 t99.length co63)) (fun _ h_ => h_.1))) hb); have n8_ := Aside0.mk (blk_below (g := gb76) (o := .cells #[.int .i64 a0_0, .int .i64 a0_1, .slice A0_2 l0_2.length c0_2, .slice A0_3 l0_3.length c0_3] 25 (0, 0)) (by refine zQ ?_; refine blk_far ?_ NB520_558.out _; refine zQ ?_; refine blk_far ?_ NB520_558.out _; refine zQ ?_; refine blk_far ?_ NB520_558.out _; refine zQ ?_; refine blk_far ?_ NB520_558.out _; refine zQ ?_; exact BK76.out) hb); have n9_ := Aside0.mk (blk_below (g := gb77) (o := .cells #[.int .i64 a1_0, .int .i64 a1_1, .slice A1_2 l1_2.length c1_2, .slice A1_3 l1_3.length c1_3] 25 (0, 0)) (by refine zQ ?_; refine blk_far ?_ NB521_558.out _; refine zQ ?_; refine blk_far ?_ NB521_558.out _; refine zQ ?_; refine blk_far ?_ NB521_558.out _; refine zQ ?_; refine blk_far ?_ NB521_558.out _; refine zQ ?_; exact BK77.out) hb); have n10_ := Aside0.mk (blk_below (g := gb78) (o := .cells #[.int .i64 t81, .int .i64 t93, .slice Ao53 t92.length co53, .slice Ao54 t94.length co54] 31 (0, 0)) (by refine zQ ?_; refine blk_far ?_ NB549_558.out _; refine zQ ?_; refine blk_far ?_ NB549_558.out _; refine zQ ?_; refine blk_far ?_ NB549_558.out _; refine zQ ?_; refine blk_far ?_ NB549_558.out _; refine zQ ?_; exact BK78.out) hb); have n11_ := Aside0.mk (blk_below (g := gb79) (o := .cells #[.int .i64 t80, .int .i64 t98, .slice Ao62 t95.length co62, .slice Ao63 t99.length co63] 31 (0, 0)) (by refine zQ ?_; refine blk_put (cs := #[.int .i64 t80, .int .i64 t98, .slice Ao62 t95.length co62, .slice none 0 0]) ?_ 3 _ rfl; refine zQ ?_; refine blk_put (cs := #[.int .i64 t80, .int .i64 t98, .slice none 0 0, .slice none 0 0]) ?_ 2 _ rfl; refine zQ ?_; refine blk_put (cs := #[.int .i64 t80, .int .i64 0, .slice none 0 0, .slice none 0 0]) ?_ 1 _ rfl; refine zQ ?_; refine blk_put (cs := #[.int .i64 0, .int .i64 0, .slice none 0 0, .slice none 0 0]) ?_ 0 _ rfl; refine zQ ?_; exact BK79.out) hb); have n12_ := Aside0.mk (below_step zb hb); clear HO85; clear HO86; clear HO88; clear HO89; clear HO90; clear HO91; clear HO96; clear HO97; clear BK76; clear BK77; clear BK78; clear BK79; clear HB; have HO85 := n0_; have HO86 := n1_; have HO88 := n2_; have HO89 := n3_; have HO90 := n4_; have HO91 := n5_; have HO96 := n6_; have HO97 := n7_; have BK76 := n8_; have BK77 := n9_; have BK78 := n10_; have BK79 := n11_; have HB := n12_; clear n0_ n1_ n2_ n3_ n4_ n5_ n6_ n7_ n8_ n9_ n10_ n11_ n12_; (try clear hb); (try clear hb2); (try clear hk); (try clear hi)))
   replace HO85 := Aside0.mk (Kd.S_drew HO85.out)
   replace HO86 := Aside0.mk (Kd.S_drew HO86.out)
   replace HO88 := Aside0.mk (Kd.S_drew HO88.out)
   replace HO89 := Aside0.mk (Kd.S_drew HO89.out)
   replace HO90 := Aside0.mk (Kd.S_drew HO90.out)
   replace HO91 := Aside0.mk (Kd.S_drew HO91.out)
   replace HO96 := Aside0.mk (Kd.S_drew HO96.out)
   replace HO97 := Aside0.mk (Kd.S_drew HO97.out)
   replace BK76 := Aside0.mk (blk_drew BK76.out)
   replace BK77 := Aside0.mk (blk_drew BK77.out)
   replace BK78 := Aside0.mk (blk_drew BK78.out)
   replace BK79 := Aside0.mk (blk_drew BK79.out)
   replace HB := Aside0.mk (below_drew1 HB.out)
   refine start_ (n := 5) (S := fun w' => w'.cell? ⟨gb78, 0, none⟩ = some (.int .i64 t81) ∧ w'.cell? ⟨gb78, 1, none⟩ = some (.int .i64 t93) ∧ w'.cell? ⟨gb78, 2, none⟩ = some (.slice Ao53 t92.length co53) ∧ w'.cell? ⟨gb78, 3, none⟩ = some (.slice Ao54 t94.length co54) ∧ w'.cell? ⟨gb76, 0, none⟩ = some (.int .i64 a0_0) ∧ w'.cell? ⟨gb76, 1, none⟩ = some (.int .i64 a0_1) ∧ w'.cell? ⟨gb76, 2, none⟩ = some (.slice A0_2 l0_2.length c0_2) ∧ w'.cell? ⟨gb76, 3, none⟩ = some (.slice A0_3 l0_3.length c0_3)) (ds := []) #[Z, Z, Z, Z, Z] (by kernel_rfl) rfl rfl ⟨(blk_cell BK78.out 0).trans rfl, (blk_cell BK78.out 1).trans rfl, (blk_cell BK78.out 2).trans rfl, (blk_cell BK78.out 3).trans rfl, (blk_cell BK76.out 0).trans rfl, (blk_cell BK76.out 1).trans rfl, (blk_cell BK76.out 2).trans rfl, (blk_cell BK76.out 3).trans rfl⟩ (fun hHeld => ?_)
   generalize w65.drew = w66 at HO85 HO86 HO88 HO89 HO90 HO91 HO96 HO97 BK76 BK77 BK78 BK79 HB hHeld ⊢
   refine zt 0 35 ?_; refine zt 1 36 ?_
   refine one_ (i := 2) (N := some 37) #[Y, Y, Y, Z, Z] rfl rfl (by kernel_rfl) (by decide) (fun K hK => ?_)
   refine goes_ Try.func13 (by kernel_rfl) rfl #[.agg #[.int .i64 a0_0, .int .i64 a0_1, .slice A0_2 l0_2.length c0_2, .slice A0_3 l0_3.length c0_3]] (by rfl) rfl rfl zm ?_
   with_reducible refine (laws_toEngine.calls k a0_0 a0_1 _ _ l0_2 _ _ l0_3 t84 t561 t562 t565 _ ?side1 ?side2 ?side3 ?side4 A26.out).mono ?_
   (case side1 => exact zc (Kd.C_below HR0_2.out HB.out))
   (case side2 => exact HC0_2.out)
   (case side3 => exact zc (Kd.C_below HR0_3.out HB.out))
   (case side4 => exact HC0_3.out)
   rintro e w67 ⟨v563, v566, rfl, ho0, ho1, hb⟩
   refine ⟨_, rfl, ?_⟩
   have HO564 := Aside0.mk (Kd.S_lower (Kd.S_new' (Kd.S_new' (Kd.S_new' (Kd.S_new' ho0 (Kd.S_lt (by (with_reducible repeat (first | apply Kd.S_alloc | apply Kd.S_drewN | apply Kd.S_drew)); exact HO85.out))) (Kd.S_lt (by (with_reducible repeat (first | apply Kd.S_alloc | apply Kd.S_drewN | apply Kd.S_drew)); exact HO88.out))) (Kd.S_lt (by (with_reducible repeat (first | apply Kd.S_alloc | apply Kd.S_drewN | apply Kd.S_drew)); exact HO90.out))) (Kd.S_lt (by (with_reducible repeat (first | apply Kd.S_alloc | apply Kd.S_drewN | apply Kd.S_drew)); exact HO96.out))) (below_size zb))
   have HO567 := Aside0.mk (Kd.S_lower (Kd.S_new' (Kd.S_new' (Kd.S_new' (Kd.S_new' ho1 (Kd.S_lt (by (with_reducible repeat (first | apply Kd.S_alloc | apply Kd.S_drewN | apply Kd.S_drew)); exact HO86.out))) (Kd.S_lt (by (with_reducible repeat (first | apply Kd.S_alloc | apply Kd.S_drewN | apply Kd.S_drew)); exact HO89.out))) (Kd.S_lt (by (with_reducible repeat (first | apply Kd.S_alloc | apply Kd.S_drewN | apply Kd.S_drew)); exact HO91.out))) (Kd.S_lt (by (with_reducible repeat (first | apply Kd.S_alloc | apply Kd.S_drewN | apply Kd.S_drew)); exact HO97.out))) (below_size zb))
   replace HO85 := Aside0.mk (Kd.S_elder' (by (with_reducible repeat (first | apply Kd.S_alloc | apply Kd.S_drewN | apply Kd.S_drew)); exact HO85.out) (Kd.S_base ho0) hb)
   replace HO86 := Aside0.mk (Kd.S_elder' (by (with_reducible repeat (first | apply Kd.S_alloc | apply Kd.S_drewN | apply Kd.S_drew)); exact HO86.out) (Kd.S_base ho1) hb)
   replace HO88 := Aside0.mk (Kd.S_elder' (by (with_reducible repeat (first | apply Kd.S_alloc | apply Kd.S_drewN | apply Kd.S_drew)); exact HO88.out) (Kd.S_base ho0) hb)
   replace HO89 := Aside0.mk (Kd.S_elder' (by (with_reducible repeat (first | apply Kd.S_alloc | apply Kd.S_drewN | apply Kd.S_drew)); exact HO89.out) (Kd.S_base ho1) hb)
   replace HO90 := Aside0.mk (Kd.S_elder' (by (with_reducible repeat (first | apply Kd.S_alloc | apply Kd.S_drewN | apply Kd.S_drew)); exact HO90.out) (Kd.S_base ho0) hb)
   replace HO91 := Aside0.mk (Kd.S_elder' (by (with_reducible repeat (first | apply Kd.S_alloc | apply Kd.S_drewN | apply Kd.S_drew)); exact HO91.out) (Kd.S_base ho1) hb)
   replace HO96 := Aside0.mk (Kd.S_elder' (by (with_reducible repeat (first | apply Kd.S_alloc | apply Kd.S_drewN | apply Kd.S_drew)); exact HO96.out) (Kd.S_base ho0) hb)
   replace HO97 := Aside0.mk (Kd.S_elder' (by (with_reducible repeat (first | apply Kd.S_alloc | apply Kd.S_drewN | apply Kd.S_drew)); exact HO97.out) (Kd.S_base ho1) hb)
   replace BK76 := zw BK76 hb
   replace BK77 := zw BK77 hb
   replace BK78 := zw BK78 hb
   replace BK79 := zw BK79 hb
   replace HB := Aside0.mk (below_step zb hb)
   (try clear hb)
   (try clear hb2)
   (try clear hk)
   (try clear hi)
   (try clear ho0)
   (try clear ho1)
   obtain ⟨Ao68, co68, eo68⟩ := Kd.S_slice HO564.out
   (first | subst eo68 | (injection eo68 with f1_ f2_ f3_; have f4_ := f1_.symm; have f5_ := f3_.symm; clear f1_ f2_ f3_; subst f4_; subst f5_))
   obtain ⟨Ao69, co69, eo69⟩ := Kd.S_slice HO567.out
   (first | subst eo69 | (injection eo69 with f1_ f2_ f3_; have f4_ := f1_.symm; have f5_ := f3_.symm; clear f1_ f2_ f3_; subst f4_; subst f5_))
   refine hK.out _ _ ⟨(blk_cell BK78.out 0).trans rfl, (blk_cell BK78.out 1).trans rfl, (blk_cell BK78.out 2).trans rfl, (blk_cell BK78.out 3).trans rfl, (blk_cell BK76.out 0).trans rfl, (blk_cell BK76.out 1).trans rfl, (blk_cell BK76.out 2).trans rfl, (blk_cell BK76.out 3).trans rfl⟩ (fun hHeld => ?_)
   clear hK K
   refine norm_ (a' := ?_) ?_ ?_
   rotate_left
   ·show Act.put _ (some 37) _ = _
    simp only [Act.put, List.setIfInBounds_toArray, List.set_cons_zero, List.set_cons_succ, i64_w, i32_w]
    rfl
   refine one_ (i := 3) (N := some 38) #[Y, Y, Y, Y, Z] rfl rfl (by kernel_rfl) (by decide) (fun K hK => ?_)
   refine goes_ Try.func15 (by kernel_rfl) rfl #[.agg #[.int .i64 t81, .int .i64 t93, .slice Ao53 t92.length co53, .slice Ao54 t94.length co54], .agg #[.int .i64 t84, .int .i64 t561, .slice Ao68 t562.length co68, .slice Ao69 t565.length co69]] (by rfl) rfl rfl zm ?_
   with_reducible refine (laws_eqEngine.calls k t81 t93 _ _ t92 _ _ t94 t84 t561 _ _ t562 _ _ t565 true _ ?side1 ?side2 ?side3 ?side4 ?side5 ?side6 ?side7 ?side8 A27.out).mono ?_
   (case side1 => exact zc (Kd.S_reads' HO90.out).2.2)
   (case side2 => exact (Kd.S_reads' HO90.out).2.1)
   (case side3 => exact zc (Kd.S_reads' HO91.out).2.2)
   (case side4 => exact (Kd.S_reads' HO91.out).2.1)
   (case side5 => exact zc (Kd.S_reads' HO564.out).2.2)
   (case side6 => exact (Kd.S_reads' HO564.out).2.1)
   (case side7 => exact zc (Kd.S_reads' HO567.out).2.2)
   (case side8 => exact (Kd.S_reads' HO567.out).2.1)
   rintro e w70 ⟨rfl, hb⟩
   refine ⟨_, rfl, ?_⟩
   replace HO85 := Aside0.mk (Kd.S_below (by (with_reducible repeat (first | apply Kd.S_alloc | apply Kd.S_drewN | apply Kd.S_drew)); exact HO85.out) hb)
   replace HO86 := Aside0.mk (Kd.S_below (by (with_reducible repeat (first | apply Kd.S_alloc | apply Kd.S_drewN | apply Kd.S_drew)); exact HO86.out) hb)
   replace HO88 := Aside0.mk (Kd.S_below (by (with_reducible repeat (first | apply Kd.S_alloc | apply Kd.S_drewN | apply Kd.S_drew)); exact HO88.out) hb)
   replace HO89 := Aside0.mk (Kd.S_below (by (with_reducible repeat (first | apply Kd.S_alloc | apply Kd.S_drewN | apply Kd.S_drew)); exact HO89.out) hb)
   replace HO90 := Aside0.mk (Kd.S_below (by (with_reducible repeat (first | apply Kd.S_alloc | apply Kd.S_drewN | apply Kd.S_drew)); exact HO90.out) hb)
   replace HO91 := Aside0.mk (Kd.S_below (by (with_reducible repeat (first | apply Kd.S_alloc | apply Kd.S_drewN | apply Kd.S_drew)); exact HO91.out) hb)
   replace HO96 := Aside0.mk (Kd.S_below (by (with_reducible repeat (first | apply Kd.S_alloc | apply Kd.S_drewN | apply Kd.S_drew)); exact HO96.out) hb)
   replace HO97 := Aside0.mk (Kd.S_below (by (with_reducible repeat (first | apply Kd.S_alloc | apply Kd.S_drewN | apply Kd.S_drew)); exact HO97.out) hb)
   replace HO564 := Aside0.mk (Kd.S_below (by (with_reducible repeat (first | apply Kd.S_alloc | apply Kd.S_drewN | apply Kd.S_drew)); exact HO564.out) hb)
   replace HO567 := Aside0.mk (Kd.S_below (by (with_reducible repeat (first | apply Kd.S_alloc | apply Kd.S_drewN | apply Kd.S_drew)); exact HO567.out) hb)
   replace BK76 := zw BK76 hb
   replace BK77 := zw BK77 hb
   replace BK78 := zw BK78 hb
   replace BK79 := zw BK79 hb
   replace HB := Aside0.mk (below_step zb hb)
   (try clear hb)
   (try clear hb2)
   (try clear hk)
   (try clear hi)
   refine hK.out _ _ ⟨(blk_cell BK78.out 0).trans rfl, (blk_cell BK78.out 1).trans rfl, (blk_cell BK78.out 2).trans rfl, (blk_cell BK78.out 3).trans rfl, (blk_cell BK76.out 0).trans rfl, (blk_cell BK76.out 1).trans rfl, (blk_cell BK76.out 2).trans rfl, (blk_cell BK76.out 3).trans rfl⟩ (fun hHeld => ?_)
   clear hK K
   refine norm_ (a' := ?_) ?_ ?_
   rotate_left
   ·show Act.put _ (some 38) _ = _
    simp only [Act.put, List.setIfInBounds_toArray, List.set_cons_zero, List.set_cons_succ, i64_w, i32_w]
    rfl
   refine zp 4 39 ?_
   refine done_ (by kernel_rfl) ?_
   try go_wp2
   replace HO85 := Aside0.mk (Kd.S_drew HO85.out)
   replace HO86 := Aside0.mk (Kd.S_drew HO86.out)
   replace HO88 := Aside0.mk (Kd.S_drew HO88.out)
   replace HO89 := Aside0.mk (Kd.S_drew HO89.out)
   replace HO90 := Aside0.mk (Kd.S_drew HO90.out)
   replace HO91 := Aside0.mk (Kd.S_drew HO91.out)
   replace HO96 := Aside0.mk (Kd.S_drew HO96.out)
   replace HO97 := Aside0.mk (Kd.S_drew HO97.out)
   replace HO564 := Aside0.mk (Kd.S_drew HO564.out)
   replace HO567 := Aside0.mk (Kd.S_drew HO567.out)
   replace BK76 := Aside0.mk (blk_drew BK76.out)
   replace BK77 := Aside0.mk (blk_drew BK77.out)
   replace BK78 := Aside0.mk (blk_drew BK78.out)
   replace BK79 := Aside0.mk (blk_drew BK79.out)
   replace HB := Aside0.mk (below_drew1 HB.out)
   refine start_ (n := 5) (S := fun w' => w'.cell? ⟨gb79, 0, none⟩ = some (.int .i64 t80) ∧ w'.cell? ⟨gb79, 1, none⟩ = some (.int .i64 t98) ∧ w'.cell? ⟨gb79, 2, none⟩ = some (.slice Ao62 t95.length co62) ∧ w'.cell? ⟨gb79, 3, none⟩ = some (.slice Ao63 t99.length co63) ∧ w'.cell? ⟨gb77, 0, none⟩ = some (.int .i64 a1_0) ∧ w'.cell? ⟨gb77, 1, none⟩ = some (.int .i64 a1_1) ∧ w'.cell? ⟨gb77, 2, none⟩ = some (.slice A1_2 l1_2.length c1_2) ∧ w'.cell? ⟨gb77, 3, none⟩ = some (.slice A1_3 l1_3.length c1_3)) (ds := []) #[Z, Z, Z, Z, Z] (by kernel_rfl) rfl rfl ⟨(blk_cell BK79.out 0).trans rfl, (blk_cell BK79.out 1).trans rfl, (blk_cell BK79.out 2).trans rfl, (blk_cell BK79.out 3).trans rfl, (blk_cell BK77.out 0).trans rfl, (blk_cell BK77.out 1).trans rfl, (blk_cell BK77.out 2).trans rfl, (blk_cell BK77.out 3).trans rfl⟩ (fun hHeld => ?_)
   generalize w70.drew = w71 at HO85 HO86 HO88 HO89 HO90 HO91 HO96 HO97 HO564 HO567 BK76 BK77 BK78 BK79 HB hHeld ⊢
   refine zt 0 40 ?_; refine zt 1 41 ?_
   refine one_ (i := 2) (N := some 42) #[Y, Y, Y, Z, Z] rfl rfl (by kernel_rfl) (by decide) (fun K hK => ?_)
   refine goes_ Try.func13 (by kernel_rfl) rfl #[.agg #[.int .i64 a1_0, .int .i64 a1_1, .slice A1_2 l1_2.length c1_2, .slice A1_3 l1_3.length c1_3]] (by rfl) rfl rfl zm ?_
   with_reducible refine (laws_toEngine.calls k a1_0 a1_1 _ _ l1_2 _ _ l1_3 t82 t570 t571 t574 _ ?side1 ?side2 ?side3 ?side4 A29.out).mono ?_
   (case side1 => exact zc (Kd.C_below HR1_2.out HB.out))
   (case side2 => exact HC1_2.out)
   (case side3 => exact zc (Kd.C_below HR1_3.out HB.out))
   (case side4 => exact HC1_3.out)
   rintro e w72 ⟨v572, v575, rfl, ho0, ho1, hb⟩
   refine ⟨_, rfl, ?_⟩
   have HO573 := Aside0.mk (Kd.S_lower (Kd.S_new' (Kd.S_new' (Kd.S_new' (Kd.S_new' (Kd.S_new' ho0 (Kd.S_lt (by (with_reducible repeat (first | apply Kd.S_alloc | apply Kd.S_drewN | apply Kd.S_drew)); exact HO85.out))) (Kd.S_lt (by (with_reducible repeat (first | apply Kd.S_alloc | apply Kd.S_drewN | apply Kd.S_drew)); exact HO88.out))) (Kd.S_lt (by (with_reducible repeat (first | apply Kd.S_alloc | apply Kd.S_drewN | apply Kd.S_drew)); exact HO90.out))) (Kd.S_lt (by (with_reducible repeat (first | apply Kd.S_alloc | apply Kd.S_drewN | apply Kd.S_drew)); exact HO96.out))) (Kd.S_lt (by (with_reducible repeat (first | apply Kd.S_alloc | apply Kd.S_drewN | apply Kd.S_drew)); exact HO564.out))) (below_size zb))
   have HO576 := Aside0.mk (Kd.S_lower (Kd.S_new' (Kd.S_new' (Kd.S_new' (Kd.S_new' (Kd.S_new' ho1 (Kd.S_lt (by (with_reducible repeat (first | apply Kd.S_alloc | apply Kd.S_drewN | apply Kd.S_drew)); exact HO86.out))) (Kd.S_lt (by (with_reducible repeat (first | apply Kd.S_alloc | apply Kd.S_drewN | apply Kd.S_drew)); exact HO89.out))) (Kd.S_lt (by (with_reducible repeat (first | apply Kd.S_alloc | apply Kd.S_drewN | apply Kd.S_drew)); exact HO91.out))) (Kd.S_lt (by (with_reducible repeat (first | apply Kd.S_alloc | apply Kd.S_drewN | apply Kd.S_drew)); exact HO97.out))) (Kd.S_lt (by (with_reducible repeat (first | apply Kd.S_alloc | apply Kd.S_drewN | apply Kd.S_drew)); exact HO567.out))) (below_size zb))
   replace HO85 := Aside0.mk (Kd.S_elder' (by (with_reducible repeat (first | apply Kd.S_alloc | apply Kd.S_drewN | apply Kd.S_drew)); exact HO85.out) (Kd.S_base ho0) hb)
   replace HO86 := Aside0.mk (Kd.S_elder' (by (with_reducible repeat (first | apply Kd.S_alloc | apply Kd.S_drewN | apply Kd.S_drew)); exact HO86.out) (Kd.S_base ho1) hb)
   replace HO88 := Aside0.mk (Kd.S_elder' (by (with_reducible repeat (first | apply Kd.S_alloc | apply Kd.S_drewN | apply Kd.S_drew)); exact HO88.out) (Kd.S_base ho0) hb)
   replace HO89 := Aside0.mk (Kd.S_elder' (by (with_reducible repeat (first | apply Kd.S_alloc | apply Kd.S_drewN | apply Kd.S_drew)); exact HO89.out) (Kd.S_base ho1) hb)
   replace HO90 := Aside0.mk (Kd.S_elder' (by (with_reducible repeat (first | apply Kd.S_alloc | apply Kd.S_drewN | apply Kd.S_drew)); exact HO90.out) (Kd.S_base ho0) hb)
   replace HO91 := Aside0.mk (Kd.S_elder' (by (with_reducible repeat (first | apply Kd.S_alloc | apply Kd.S_drewN | apply Kd.S_drew)); exact HO91.out) (Kd.S_base ho1) hb)
   replace HO96 := Aside0.mk (Kd.S_elder' (by (with_reducible repeat (first | apply Kd.S_alloc | apply Kd.S_drewN | apply Kd.S_drew)); exact HO96.out) (Kd.S_base ho0) hb)
   replace HO97 := Aside0.mk (Kd.S_elder' (by (with_reducible repeat (first | apply Kd.S_alloc | apply Kd.S_drewN | apply Kd.S_drew)); exact HO97.out) (Kd.S_base ho1) hb)
   replace HO564 := Aside0.mk (Kd.S_elder' (by (with_reducible repeat (first | apply Kd.S_alloc | apply Kd.S_drewN | apply Kd.S_drew)); exact HO564.out) (Kd.S_base ho0) hb)
   replace HO567 := Aside0.mk (Kd.S_elder' (by (with_reducible repeat (first | apply Kd.S_alloc | apply Kd.S_drewN | apply Kd.S_drew)); exact HO567.out) (Kd.S_base ho1) hb)
   replace BK76 := zw BK76 hb
   replace BK77 := zw BK77 hb
   replace BK78 := zw BK78 hb
   replace BK79 := zw BK79 hb
   replace HB := Aside0.mk (below_step zb hb)
   (try clear hb)
   (try clear hb2)
   (try clear hk)
   (try clear hi)
   (try clear ho0)
   (try clear ho1)
   obtain ⟨Ao73, co73, eo73⟩ := Kd.S_slice HO573.out
   (first | subst eo73 | (injection eo73 with f1_ f2_ f3_; have f4_ := f1_.symm; have f5_ := f3_.symm; clear f1_ f2_ f3_; subst f4_; subst f5_))
   obtain ⟨Ao74, co74, eo74⟩ := Kd.S_slice HO576.out
   (first | subst eo74 | (injection eo74 with f1_ f2_ f3_; have f4_ := f1_.symm; have f5_ := f3_.symm; clear f1_ f2_ f3_; subst f4_; subst f5_))
   refine hK.out _ _ ⟨(blk_cell BK79.out 0).trans rfl, (blk_cell BK79.out 1).trans rfl, (blk_cell BK79.out 2).trans rfl, (blk_cell BK79.out 3).trans rfl, (blk_cell BK77.out 0).trans rfl, (blk_cell BK77.out 1).trans rfl, (blk_cell BK77.out 2).trans rfl, (blk_cell BK77.out 3).trans rfl⟩ (fun hHeld => ?_)
   clear hK K
   refine norm_ (a' := ?_) ?_ ?_
   rotate_left
   ·show Act.put _ (some 42) _ = _
    simp only [Act.put, List.setIfInBounds_toArray, List.set_cons_zero, List.set_cons_succ, i64_w, i32_w]
    rfl
   refine one_ (i := 3) (N := some 43) #[Y, Y, Y, Y, Z] rfl rfl (by kernel_rfl) (by decide) (fun K hK => ?_)
   refine goes_ Try.func15 (by kernel_rfl) rfl #[.agg #[.int .i64 t80, .int .i64 t98, .slice Ao62 t95.length co62, .slice Ao63 t99.length co63], .agg #[.int .i64 t82, .int .i64 t570, .slice Ao73 t571.length co73, .slice Ao74 t574.length co74]] (by rfl) rfl rfl zm ?_
   with_reducible refine (laws_eqEngine.calls k t80 t98 _ _ t95 _ _ t99 t82 t570 _ _ t571 _ _ t574 true _ ?side1 ?side2 ?side3 ?side4 ?side5 ?side6 ?side7 ?side8 A30.out).mono ?_
   (case side1 => exact zc (Kd.S_reads' HO96.out).2.2)
   (case side2 => exact (Kd.S_reads' HO96.out).2.1)
   (case side3 => exact zc (Kd.S_reads' HO97.out).2.2)
   (case side4 => exact (Kd.S_reads' HO97.out).2.1)
   (case side5 => exact zc (Kd.S_reads' HO573.out).2.2)
   (case side6 => exact (Kd.S_reads' HO573.out).2.1)
   (case side7 => exact zc (Kd.S_reads' HO576.out).2.2)
   (case side8 => exact (Kd.S_reads' HO576.out).2.1)
   rintro e w75 ⟨rfl, hb⟩
   refine ⟨_, rfl, ?_⟩
   replace HO85 := Aside0.mk (Kd.S_below (by (with_reducible repeat (first | apply Kd.S_alloc | apply Kd.S_drewN | apply Kd.S_drew)); exact HO85.out) hb)
   replace HO86 := Aside0.mk (Kd.S_below (by (with_reducible repeat (first | apply Kd.S_alloc | apply Kd.S_drewN | apply Kd.S_drew)); exact HO86.out) hb)
   replace HO88 := Aside0.mk (Kd.S_below (by (with_reducible repeat (first | apply Kd.S_alloc | apply Kd.S_drewN | apply Kd.S_drew)); exact HO88.out) hb)
   replace HO89 := Aside0.mk (Kd.S_below (by (with_reducible repeat (first | apply Kd.S_alloc | apply Kd.S_drewN | apply Kd.S_drew)); exact HO89.out) hb)
   replace HO90 := Aside0.mk (Kd.S_below (by (with_reducible repeat (first | apply Kd.S_alloc | apply Kd.S_drewN | apply Kd.S_drew)); exact HO90.out) hb)
   replace HO91 := Aside0.mk (Kd.S_below (by (with_reducible repeat (first | apply Kd.S_alloc | apply Kd.S_drewN | apply Kd.S_drew)); exact HO91.out) hb)
   replace HO96 := Aside0.mk (Kd.S_below (by (with_reducible repeat (first | apply Kd.S_alloc | apply Kd.S_drewN | apply Kd.S_drew)); exact HO96.out) hb)
   replace HO97 := Aside0.mk (Kd.S_below (by (with_reducible repeat (first | apply Kd.S_alloc | apply Kd.S_drewN | apply Kd.S_drew)); exact HO97.out) hb)
   replace HO564 := Aside0.mk (Kd.S_below (by (with_reducible repeat (first | apply Kd.S_alloc | apply Kd.S_drewN | apply Kd.S_drew)); exact HO564.out) hb)
   replace HO567 := Aside0.mk (Kd.S_below (by (with_reducible repeat (first | apply Kd.S_alloc | apply Kd.S_drewN | apply Kd.S_drew)); exact HO567.out) hb)
   replace HO573 := Aside0.mk (Kd.S_below (by (with_reducible repeat (first | apply Kd.S_alloc | apply Kd.S_drewN | apply Kd.S_drew)); exact HO573.out) hb)
   replace HO576 := Aside0.mk (Kd.S_below (by (with_reducible repeat (first | apply Kd.S_alloc | apply Kd.S_drewN | apply Kd.S_drew)); exact HO576.out) hb)
   replace BK76 := zw BK76 hb
   replace BK77 := zw BK77 hb
   replace BK78 := zw BK78 hb
   replace BK79 := zw BK79 hb
   replace HB := Aside0.mk (below_step zb hb)
   (try clear hb)
   (try clear hb2)
   (try clear hk)
   (try clear hi)
   refine hK.out _ _ ⟨(blk_cell BK79.out 0).trans rfl, (blk_cell BK79.out 1).trans rfl, (blk_cell BK79.out 2).trans rfl, (blk_cell BK79.out 3).trans rfl, (blk_cell BK77.out 0).trans rfl, (blk_cell BK77.out 1).trans rfl, (blk_cell BK77.out 2).trans rfl, (blk_cell BK77.out 3).trans rfl⟩ (fun hHeld => ?_)
   clear hK K
   refine norm_ (a' := ?_) ?_ ?_
   rotate_left
   ·show Act.put _ (some 43) _ = _
    simp only [Act.put, List.setIfInBounds_toArray, List.set_cons_zero, List.set_cons_succ, i64_w, i32_w]
    rfl
   refine zp 4 44 ?_
   refine done_ (by kernel_rfl) ?_
   try go_wp2
   go_ret
   exact ⟨ze, zb⟩
  replace c31 := Bool.eq_false_iff.mpr c31
  subst c31
  have H1 : (some false) = some true := by rw [if_neg (show ¬ (false = true) by decide)] at H; first | done | exact H
  clear H
  have H := H1
  clear H1
  exact absurd H (by simp)
 replace c28 := Bool.eq_false_iff.mpr c28
 subst c28
 have H1 : (some false) = some true := by rw [if_neg (show ¬ (false = true) by decide)] at H; first | done | exact H
 clear H
 have H := H1
 clear H1
 exact absurd H (by simp)
end Go.Proofs.Ytonbnmaelepcbaa.P
