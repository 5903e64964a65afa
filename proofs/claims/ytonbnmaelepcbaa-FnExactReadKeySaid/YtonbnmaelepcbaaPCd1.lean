import Derived.Test.YtonbnmaelepcbaaP0
import Derived.Test.YtonbnmaelepcbaaPCacdefgh0
import Derived.Test.YtonbnmaelepcbaaPCacdefgh3
import Derived.Test.YtonbnmaelepcbaaPCall2
import Derived.Test.YtonbnmaelepcbaaPCcd0
import Derived.Test.YtonbnmaelepcbaaPCd0
import Derived.Test.YtonbnmaelepcbaaPDacdefgh0
import Derived.Test.YtonbnmaelepcbaaPDm0
import Derived.Test.YtonbnmaelepcbaaPDm1
import Derived.Test.YtonbnmaelepcbaaPDm2
import Derived.Test.YtonbnmaelepcbaaWRepsOne
import Derived.Test.YtonbnmaelepcbaaLv
namespace Go.Proofs.Ytonbnmaelepcbaa.P
open Go.RowKit Go.Proofs.YtonbnmaelepcbaaW.PrintWords Go.Proofs.YtonbnmaelepcbaaW.PrintLast Go.Proofs.YtonbnmaelepcbaaW.PrintMore
attribute [local go_sem] max2_int min2_int max_two min_two max_three min_three max_four min_four   -- for this text's walks alone
set_option linter.unusedVariables false
set_option linter.unusedSimpArgs false
set_option maxHeartbeats 8000000 in
set_option maxRecDepth 100000 in
theorem laws_FnExactReadKey.calls (k : Nat) (a0_0 : Int) (a0_1 : Int) (A0_2 : Option Addr) (c0_2 : Nat) (l0_2 : List (S139)) (A0_3 : Option Addr) (c0_3 : Nat) (l0_3 : List (S143)) (a1 : Int) (a2 : Int) (w : World) (hr0_2 : Kd.C k139 w A0_2 l0_2.length l0_2) (hc0_2 : l0_2.length ≤ c0_2) (hr0_3 : Kd.C k143 w A0_3 l0_3.length l0_3) (hc0_3 : l0_3.length ≤ c0_3) (h : laws_FnExactReadKey.f k a0_0 a0_1 l0_2 l0_3 a1 a2 = some true) :
 Calls Try.prog 6 #[.agg #[.int .i64 a0_0, .int .i64 a0_1, .slice A0_2 l0_2.length c0_2, .slice A0_3 l0_3.length c0_3], .int .i64 a1, .int .i64 a2] w fun e w' => e = .returned (.bool true) ∧ Below w.heap.size w w' := by
 have hu25 := Try.underlying25
 have hu48 := Try.underlying48
 have hu31 := Try.underlying31
 have HR0_2 := Aside0.mk hr0_2
 have HC0_2 := Aside0.mk hc0_2
 clear hr0_2 hc0_2
 have HR0_3 := Aside0.mk hr0_3
 have HC0_3 := Aside0.mk hc0_3
 clear hr0_3 hc0_3
 have HB := Aside0.mk (Below.refl w.heap.size w)
 have H : ((laws_szEngine.f k a0_0 a0_1 l0_2 l0_3 1048576).bind fun t71 => (if t71 < 0 then (some true) else ((laws_toEngine.f k a0_0 a0_1 l0_2 l0_3).bind fun bt68 => ((spec_ReadKey.f k bt68.1 bt68.2.1 bt68.2.2.1 bt68.2.2.2 a1 a2).bind fun bt58 => ((laws_toEngine.f k a0_0 a0_1 l0_2 l0_3).bind fun bt53 => ((impl_ReadKey.f k bt53.1 bt53.2.1 bt53.2.2.1 bt53.2.2.2 a1 a2).bind fun bt61 => ((laws_eqIntResult.f bt61.1 bt61.2 bt58.1 bt58.2).bind fun t69 => (if t69 = true then ((laws_toEngine.f k a0_0 a0_1 l0_2 l0_3).bind fun bt55 => ((laws_eqEngine.f k bt53.1 bt53.2.1 bt53.2.2.1 bt53.2.2.2 bt55.1 bt55.2.1 bt55.2.2.1 bt55.2.2.2).bind fun t67 => (if t67 = true then (some true) else (some false)))) else (some false))))))))) = some true := h
 clear h
 replace H := Option.bind_eq_some_iff.mp H
 obtain ⟨t71, A40, H⟩ := H
 replace H : (if t71 < 0 then (some true) else ((laws_toEngine.f k a0_0 a0_1 l0_2 l0_3).bind fun bt68 => ((spec_ReadKey.f k bt68.1 bt68.2.1 bt68.2.2.1 bt68.2.2.2 a1 a2).bind fun bt58 => ((laws_toEngine.f k a0_0 a0_1 l0_2 l0_3).bind fun bt53 => ((impl_ReadKey.f k bt53.1 bt53.2.1 bt53.2.2.1 bt53.2.2.2 a1 a2).bind fun bt61 => ((laws_eqIntResult.f bt61.1 bt61.2 bt58.1 bt58.2).bind fun t69 => (if t69 = true then ((laws_toEngine.f k a0_0 a0_1 l0_2 l0_3).bind fun bt55 => ((laws_eqEngine.f k bt53.1 bt53.2.1 bt53.2.2.1 bt53.2.2.2 bt55.1 bt55.2.1 bt55.2.2.1 bt55.2.2.2).bind fun t67 => (if t67 = true then (some true) else (some false)))) else (some false)))))))) = some true := H
 have A4 := Aside0.mk A40
 clear A40
 by_cases c5 : t71 < 0
 ·rw [if_pos c5] at H
  have c5b0 : decide (t71 < 0) = true := decide_eq_true c5
  clear c5
  go_enter Try.func6, Try.ntmps6
  go_wp2_with (first | ((with_reducible refine gate_dst (N := 3) rfl ?_); refine box_event ?hg (N := 3) ?hd (cs := #[.int .i64 a0_0, .int .i64 a0_1, .slice A0_2 l0_2.length c0_2, .slice A0_3 l0_3.length c0_3]) (t := 25) ?hr ?_; (case hd => rfl); (case hg => rfl); (case hr => first | (go_simp; done) | (go_simp; rfl)); intro gb50 hg w6 hbox hb; have n0_ := Aside0.mk (below_step (by apply_rules [HB.out, below_alloc, pw_below_drewN, below_drew1]) hb); have n1_ := Aside0.mk (hbox); have n2_ := Aside0.mk ((by rw [hg]; exact (below_size (by apply_rules [HB.out, below_alloc, pw_below_drewN, below_drew1])) : w.heap.size ≤ gb50)); have n3_ := n2_; clear HB; have HB := n0_; have BK50 := n1_; have GW50 := n2_; have GE50 := n3_; clear n0_ n1_ n2_ n3_; clear hb hbox hg; obtain ⟨hcz7_0, hcz7_1, hcz7_2, hcz7_3, hfz7_0, hfz7_1, hfz7_2, hfz7_3⟩ := Lv.blks4 BK50.out) | ((with_reducible refine gate_callee (f := 11) rfl ?_); refine goesL_ (some 13) rfl rfl Try.func11 (by kernel_rfl) rfl #[.agg #[.int .i64 a0_0, .int .i64 a0_1, .slice A0_2 l0_2.length c0_2, .slice A0_3 l0_3.length c0_3], .int .i64 1048576] rfl (by first | rfl | (simp only [List.map_toArray, List.map_cons, List.map_nil]; rfl)) ?_; (with_reducible refine (laws_szEngine.calls k a0_0 a0_1 _ _ l0_2 _ _ l0_3 1048576 t71 _ ?side1 ?side2 ?side3 ?side4 A4.out).mono ?_); (case side1 => repeat (first | exact (Kd.C_below HR0_2.out HB.out) | (with_reducible first | refine Kd.C_alloc ?_ _ | refine Kd.C_drewN ?_ _ | refine Kd.C_drew ?_))); (case side2 => exact HC0_2.out); (case side3 => repeat (first | exact (Kd.C_below HR0_3.out HB.out) | (with_reducible first | refine Kd.C_alloc ?_ _ | refine Kd.C_drewN ?_ _ | refine Kd.C_drew ?_))); (case side4 => exact HC0_3.out); rintro e w8 ⟨rfl, hb⟩; refine ⟨_, rfl, ?_⟩; have n0_ := Aside0.mk (blk_below (g := gb50) (o := .cells #[.int .i64 a0_0, .int .i64 a0_1, .slice A0_2 l0_2.length c0_2, .slice A0_3 l0_3.length c0_3] 25 (0, 0)) (by apply_rules [BK50.out, blk_drewN, blk_drew, blk_alloc]) hb); have n1_ := Aside0.mk (below_step (by apply_rules [HB.out, below_alloc, pw_below_drewN, below_drew1, below_set, GE50.out]) hb); clear BK50; clear HB; have BK50 := n0_; have HB := n1_; clear n0_ n1_; (try clear hb); (try clear hb2); (try clear hk); (try clear hi)))
  go_ret
  exact ⟨by first | rfl | (simp [errW_none, errW_some] <;> rfl) | (simp [*, errW_none, errW_some] <;> rfl), by apply_rules [HB.out, below_alloc, pw_below_drewN, below_drew1, below_set, GE50.out]⟩
 rw [if_neg c5] at H
 have c5b0 : decide (t71 < 0) = false := decide_eq_false c5
 clear c5
 replace H := Option.bind_eq_some_iff.mp H
 obtain ⟨⟨t68, t76, t74, t75⟩, A90, H⟩ := H
 replace H : ((spec_ReadKey.f k t68 t76 t74 t75 a1 a2).bind fun bt58 => ((laws_toEngine.f k a0_0 a0_1 l0_2 l0_3).bind fun bt53 => ((impl_ReadKey.f k bt53.1 bt53.2.1 bt53.2.2.1 bt53.2.2.2 a1 a2).bind fun bt61 => ((laws_eqIntResult.f bt61.1 bt61.2 bt58.1 bt58.2).bind fun t69 => (if t69 = true then ((laws_toEngine.f k a0_0 a0_1 l0_2 l0_3).bind fun bt55 => ((laws_eqEngine.f k bt53.1 bt53.2.1 bt53.2.2.1 bt53.2.2.2 bt55.1 bt55.2.1 bt55.2.2.1 bt55.2.2.2).bind fun t67 => (if t67 = true then (some true) else (some false)))) else (some false)))))) = some true := H
 have A9 := Aside0.mk A90
 clear A90
 replace H := Option.bind_eq_some_iff.mp H
 obtain ⟨⟨t58, t66⟩, A80, H⟩ := H
 replace H : ((laws_toEngine.f k a0_0 a0_1 l0_2 l0_3).bind fun bt53 => ((impl_ReadKey.f k bt53.1 bt53.2.1 bt53.2.2.1 bt53.2.2.2 a1 a2).bind fun bt61 => ((laws_eqIntResult.f bt61.1 bt61.2 t58 t66).bind fun t69 => (if t69 = true then ((laws_toEngine.f k a0_0 a0_1 l0_2 l0_3).bind fun bt55 => ((laws_eqEngine.f k bt53.1 bt53.2.1 bt53.2.2.1 bt53.2.2.2 bt55.1 bt55.2.1 bt55.2.2.1 bt55.2.2.2).bind fun t67 => (if t67 = true then (some true) else (some false)))) else (some false))))) = some true := H
 have A10 := Aside0.mk A80
 clear A80
 replace H := Option.bind_eq_some_iff.mp H
 obtain ⟨⟨t53, t62, t63, t65⟩, A81, H⟩ := H
 replace H : ((impl_ReadKey.f k t53 t62 t63 t65 a1 a2).bind fun bt61 => ((laws_eqIntResult.f bt61.1 bt61.2 t58 t66).bind fun t69 => (if t69 = true then ((laws_toEngine.f k a0_0 a0_1 l0_2 l0_3).bind fun bt55 => ((laws_eqEngine.f k t53 t62 t63 t65 bt55.1 bt55.2.1 bt55.2.2.1 bt55.2.2.2).bind fun t67 => (if t67 = true then (some true) else (some false)))) else (some false)))) = some true := H
 have A11 := Aside0.mk A81
 clear A81
 replace H := Option.bind_eq_some_iff.mp H
 obtain ⟨⟨t61, t70⟩, A82, H⟩ := H
 replace H : ((laws_eqIntResult.f t61 t70 t58 t66).bind fun t69 => (if t69 = true then ((laws_toEngine.f k a0_0 a0_1 l0_2 l0_3).bind fun bt55 => ((laws_eqEngine.f k t53 t62 t63 t65 bt55.1 bt55.2.1 bt55.2.2.1 bt55.2.2.2).bind fun t67 => (if t67 = true then (some true) else (some false)))) else (some false))) = some true := H
 have A12 := Aside0.mk A82
 clear A82
 replace H := Option.bind_eq_some_iff.mp H
 obtain ⟨t69, A84, H⟩ := H
 replace H : (if t69 = true then ((laws_toEngine.f k a0_0 a0_1 l0_2 l0_3).bind fun bt55 => ((laws_eqEngine.f k t53 t62 t63 t65 bt55.1 bt55.2.1 bt55.2.2.1 bt55.2.2.2).bind fun t67 => (if t67 = true then (some true) else (some false)))) else (some false)) = some true := H
 have A13 := Aside0.mk A84
 clear A84
 by_cases c14 : t69 = true
 ·subst c14
  have H1 : ((laws_toEngine.f k a0_0 a0_1 l0_2 l0_3).bind fun bt55 => ((laws_eqEngine.f k t53 t62 t63 t65 bt55.1 bt55.2.1 bt55.2.2.1 bt55.2.2.2).bind fun t67 => (if t67 = true then (some true) else (some false)))) = some true := by rw [if_pos rfl] at H; first | done | exact H
  clear H
  have H := H1
  clear H1
  replace H := Option.bind_eq_some_iff.mp H
  obtain ⟨⟨t55, t77, t78, t79⟩, A85, H⟩ := H
  replace H : ((laws_eqEngine.f k t53 t62 t63 t65 t55 t77 t78 t79).bind fun t67 => (if t67 = true then (some true) else (some false))) = some true := H
  have A15 := Aside0.mk A85
  clear A85
  replace H := Option.bind_eq_some_iff.mp H
  obtain ⟨t67, A86, H⟩ := H
  replace H : (if t67 = true then (some true) else (some false)) = some true := H
  have A16 := Aside0.mk A86
  clear A86
  by_cases c17 : t67 = true
  ·subst c17
   have H1 : (some true) = some true := by rw [if_pos rfl] at H; first | done | exact H
   clear H
   have H := H1
   clear H1
   go_enter Try.func6, Try.ntmps6
   try go_wp2_with (first | ((with_reducible refine gate_dst (N := 3) rfl ?_); refine box_event ?hg (N := 3) ?hd (cs := #[.int .i64 a0_0, .int .i64 a0_1, .slice A0_2 l0_2.length c0_2, .slice A0_3 l0_3.length c0_3]) (t := 25) ?hr ?_; (case hd => rfl); (case hg => rfl); (case hr => first | (go_simp; done) | (go_simp; rfl)); intro gb50 hg w18 hbox hb; have n0_ := Aside0.mk (below_step (by apply_rules [HB.out, below_alloc, pw_below_drewN, below_drew1]) hb); have n1_ := Aside0.mk (hbox); have n2_ := Aside0.mk ((by rw [hg]; exact (below_size (by apply_rules [HB.out, below_alloc, pw_below_drewN, below_drew1])) : w.heap.size ≤ gb50)); have n3_ := n2_; clear HB; have HB := n0_; have BK50 := n1_; have GW50 := n2_; have GE50 := n3_; clear n0_ n1_ n2_ n3_; clear hb hbox hg; obtain ⟨hcz19_0, hcz19_1, hcz19_2, hcz19_3, hfz19_0, hfz19_1, hfz19_2, hfz19_3⟩ := Lv.blks4 BK50.out) | ((with_reducible refine gate_callee (f := 11) rfl ?_); refine goesL_ (some 13) rfl rfl Try.func11 (by kernel_rfl) rfl #[.agg #[.int .i64 a0_0, .int .i64 a0_1, .slice A0_2 l0_2.length c0_2, .slice A0_3 l0_3.length c0_3], .int .i64 1048576] rfl (by first | rfl | (simp only [List.map_toArray, List.map_cons, List.map_nil]; rfl)) ?_; (with_reducible refine (laws_szEngine.calls k a0_0 a0_1 _ _ l0_2 _ _ l0_3 1048576 t71 _ ?side1 ?side2 ?side3 ?side4 A4.out).mono ?_); (case side1 => repeat (first | exact (Kd.C_below HR0_2.out HB.out) | (with_reducible first | refine Kd.C_alloc ?_ _ | refine Kd.C_drewN ?_ _ | refine Kd.C_drew ?_))); (case side2 => exact HC0_2.out); (case side3 => repeat (first | exact (Kd.C_below HR0_3.out HB.out) | (with_reducible first | refine Kd.C_alloc ?_ _ | refine Kd.C_drewN ?_ _ | refine Kd.C_drew ?_))); (case side4 => exact HC0_3.out); rintro e w20 ⟨rfl, hb⟩; refine ⟨_, rfl, ?_⟩; have n0_ := Aside0.mk (blk_below (g := gb50) (o := .cells #[.int .i64 a0_0, .int .i64 a0_1, .slice A0_2 l0_2.length c0_2, .slice A0_3 l0_3.length c0_3] 25 (0, 0)) (by apply_rules [BK50.out, blk_drewN, blk_drew, blk_alloc]) hb); have n1_ := Aside0.mk (below_step (by apply_rules [HB.out, below_alloc, pw_below_drewN, below_drew1, below_set, GE50.out]) hb); clear BK50; clear HB; have BK50 := n0_; have HB := n1_; clear n0_ n1_; (try clear hb); (try clear hb2); (try clear hk); (try clear hi); obtain ⟨hcz21_0, hcz21_1, hcz21_2, hcz21_3, hfz21_0, hfz21_1, hfz21_2, hfz21_3⟩ := Lv.blks4 BK50.out) | ((with_reducible refine gate_callee (f := 13) rfl ?_); refine goesL_ (some 17) rfl rfl Try.func13 (by kernel_rfl) rfl #[.agg #[.int .i64 a0_0, .int .i64 a0_1, .slice A0_2 l0_2.length c0_2, .slice A0_3 l0_3.length c0_3]] rfl (by first | rfl | (simp only [List.map_toArray, List.map_cons, List.map_nil]; rfl)) ?_; (with_reducible refine (laws_toEngine.calls k a0_0 a0_1 _ _ l0_2 _ _ l0_3 t68 t76 t74 t75 _ ?side1 ?side2 ?side3 ?side4 A9.out).mono ?_); (case side1 => repeat (first | exact (Kd.C_below HR0_2.out HB.out) | (with_reducible first | refine Kd.C_alloc ?_ _ | refine Kd.C_drewN ?_ _ | refine Kd.C_drew ?_))); (case side2 => exact HC0_2.out); (case side3 => repeat (first | exact (Kd.C_below HR0_3.out HB.out) | (with_reducible first | refine Kd.C_alloc ?_ _ | refine Kd.C_drewN ?_ _ | refine Kd.C_drew ?_))); (case side4 => exact HC0_3.out); rintro e w22 ⟨v88, v89, rfl, ho0, ho1, hb⟩; refine ⟨_, rfl, ?_⟩; have n0_ := Aside0.mk (Kd.S_lower ho0 (below_size (by apply_rules [HB.out, below_alloc, pw_below_drewN, below_drew1, below_set, GE50.out]))); have n1_ := Aside0.mk (Kd.S_lower ho1 (below_size (by apply_rules [HB.out, below_alloc, pw_below_drewN, below_drew1, below_set, GE50.out]))); have n2_ := Aside0.mk (blk_below (g := gb50) (o := .cells #[.int .i64 a0_0, .int .i64 a0_1, .slice A0_2 l0_2.length c0_2, .slice A0_3 l0_3.length c0_3] 25 (0, 0)) (by apply_rules [BK50.out, blk_drewN, blk_drew, blk_alloc]) hb); have n3_ := Aside0.mk (below_step (by apply_rules [HB.out, below_alloc, pw_below_drewN, below_drew1, below_set, GE50.out]) hb); clear BK50; clear HB; have HO56 := n0_; have HO57 := n1_; have BK50 := n2_; have HB := n3_; clear n0_ n1_ n2_ n3_; (try clear hb); (try clear hb2); (try clear hk); (try clear hi); (try clear ho0); (try clear ho1); obtain ⟨Ao23, co23, eo23⟩ := Kd.S_slice HO56.out; subst eo23; obtain ⟨Ao24, co24, eo24⟩ := Kd.S_slice HO57.out; subst eo24) | ((with_reducible refine gate_callee (f := 28) rfl ?_); refine goesL_ (some 20) rfl rfl Try.func28 (by kernel_rfl) rfl #[.agg #[.int .i64 t68, .int .i64 t76, .slice Ao23 t74.length co23, .slice Ao24 t75.length co24], .int .i64 a1, .int .i64 a2] rfl (by first | rfl | (simp only [List.map_toArray, List.map_cons, List.map_nil]; rfl)) ?_; (with_reducible refine (spec_ReadKey.calls k t68 t76 _ _ t74 _ _ t75 a1 a2 t58 t66 _ ?side1 ?side2 ?side3 ?side4 A10.out).mono ?_); (case side1 => repeat (first | exact (Kd.S_reads' HO56.out).2.2 | (with_reducible first | refine Kd.C_alloc ?_ _ | refine Kd.C_drewN ?_ _ | refine Kd.C_drew ?_))); (case side2 => exact (Kd.S_reads' HO56.out).2.1); (case side3 => repeat (first | exact (Kd.S_reads' HO57.out).2.2 | (with_reducible first | refine Kd.C_alloc ?_ _ | refine Kd.C_drewN ?_ _ | refine Kd.C_drew ?_))); (case side4 => exact (Kd.S_reads' HO57.out).2.1); rintro e w25 ⟨rfl, hb⟩; refine ⟨_, rfl, ?_⟩; have n0_ := Aside0.mk (Kd.S_below (by (with_reducible repeat (first | apply Kd.S_alloc | apply Kd.S_drewN | apply Kd.S_drew)); exact HO56.out) hb); have n1_ := Aside0.mk (Kd.S_below (by (with_reducible repeat (first | apply Kd.S_alloc | apply Kd.S_drewN | apply Kd.S_drew)); exact HO57.out) hb); have n2_ := Aside0.mk (blk_below (g := gb50) (o := .cells #[.int .i64 a0_0, .int .i64 a0_1, .slice A0_2 l0_2.length c0_2, .slice A0_3 l0_3.length c0_3] 25 (0, 0)) (by apply_rules [BK50.out, blk_drewN, blk_drew, blk_alloc]) hb); have n3_ := Aside0.mk (below_step (by apply_rules [HB.out, below_alloc, pw_below_drewN, below_drew1, below_set, GE50.out]) hb); clear HO56; clear HO57; clear BK50; clear HB; have HO56 := n0_; have HO57 := n1_; have BK50 := n2_; have HB := n3_; clear n0_ n1_ n2_ n3_; (try clear hb); (try clear hb2); (try clear hk); (try clear hi)) | ((with_reducible refine gate_dst (N := 8) rfl ?_); refine box_event ?hg (N := 8) ?hd (cs := #[.int .i64 0, .int .i64 0]) (t := 48) ?hr ?_; (case hd => rfl); (case hg => rfl); (case hr => first | (go_simp; done) | (go_simp; rfl)); intro gb52 hg w26 hbox hb; have n0_ := Aside0.mk (Kd.S_below (by (with_reducible repeat (first | apply Kd.S_alloc | apply Kd.S_drewN | apply Kd.S_drew)); exact HO56.out) hb); have n1_ := Aside0.mk (Kd.S_below (by (with_reducible repeat (first | apply Kd.S_alloc | apply Kd.S_drewN | apply Kd.S_drew)); exact HO57.out) hb); have n2_ := Aside0.mk (blk_below (g := gb50) (o := .cells #[.int .i64 a0_0, .int .i64 a0_1, .slice A0_2 l0_2.length c0_2, .slice A0_3 l0_3.length c0_3] 25 (0, 0)) (by apply_rules [BK50.out, blk_drewN, blk_drew, blk_alloc]) hb); have n3_ := Aside0.mk (below_step (by apply_rules [HB.out, below_alloc, pw_below_drewN, below_drew1, below_set, GE50.out]) hb); have n4_ := Aside0.mk (hbox); have n5_ := Aside0.mk ((by rw [hg]; exact (below_size (by apply_rules [HB.out, below_alloc, pw_below_drewN, below_drew1, below_set, GE50.out])) : w.heap.size ≤ gb52)); have n6_ := n5_; have n7_ := Aside0.mk ((by rw [hg]; exact Nat.ne_of_lt (blk_lt (g := gb50) (o := .cells #[.int .i64 a0_0, .int .i64 a0_1, .slice A0_2 l0_2.length c0_2, .slice A0_3 l0_3.length c0_3] 25 (0, 0)) (by apply_rules [BK50.out, blk_drewN, blk_drew, blk_alloc])) : gb50 ≠ gb52)); have n8_ := Aside0.mk ((by rw [hg]; exact Nat.ne_of_gt (blk_lt (g := gb50) (o := .cells #[.int .i64 a0_0, .int .i64 a0_1, .slice A0_2 l0_2.length c0_2, .slice A0_3 l0_3.length c0_3] 25 (0, 0)) (by apply_rules [BK50.out, blk_drewN, blk_drew, blk_alloc])) : gb52 ≠ gb50)); clear HO56; clear HO57; clear BK50; clear HB; have HO56 := n0_; have HO57 := n1_; have BK50 := n2_; have HB := n3_; have BK52 := n4_; have GW52 := n5_; have GE52 := n6_; have NB488_500 := n7_; have NB500_488 := n8_; clear n0_ n1_ n2_ n3_ n4_ n5_ n6_ n7_ n8_; clear hb hbox hg; have hnb27 := NB500_488.out; have hnc27 := NB488_500.out; obtain ⟨hcz28_0, hcz28_1, hfz28_0, hfz28_1⟩ := Lv.blks2 BK52.out; obtain ⟨hcz29_0, hcz29_1, hcz29_2, hcz29_3, hfz29_0, hfz29_1, hfz29_2, hfz29_3⟩ := Lv.blks4 BK50.out) | ((with_reducible refine gate_callee (f := 13) rfl ?_); refine goesL_ (some 22) rfl rfl Try.func13 (by kernel_rfl) rfl #[.agg #[.int .i64 a0_0, .int .i64 a0_1, .slice A0_2 l0_2.length c0_2, .slice A0_3 l0_3.length c0_3]] rfl (by first | rfl | (simp only [List.map_toArray, List.map_cons, List.map_nil]; rfl)) ?_; (with_reducible refine (laws_toEngine.calls k a0_0 a0_1 _ _ l0_2 _ _ l0_3 t53 t62 t63 t65 _ ?side1 ?side2 ?side3 ?side4 A11.out).mono ?_); (case side1 => exact Kd.C_below HR0_2.out (by apply_rules [HB.out, below_alloc, pw_below_drewN, below_drew1, below_set, GE50.out, GE52.out])); (case side2 => exact HC0_2.out); (case side3 => exact Kd.C_below HR0_3.out (by apply_rules [HB.out, below_alloc, pw_below_drewN, below_drew1, below_set, GE50.out, GE52.out])); (case side4 => exact HC0_3.out); rintro e w30 ⟨v91, v92, rfl, ho0, ho1, hb⟩; refine ⟨_, rfl, ?_⟩; have n0_ := Aside0.mk (Kd.S_elder' (by (with_reducible repeat (first | apply Kd.S_alloc | apply Kd.S_drewN | apply Kd.S_drew)); exact (Kd.S_mono (Kd.S_far (p := ⟨gb52, 1, none⟩) (Kd.S_far (p := ⟨gb52, 0, none⟩) (Kd.S_types HO56.out BK52.out (by decide)) (fun _ hk => hk.2) (.int .i64 t58)) (fun _ hk => hk.2) (.int .i64 t66)) (fun _ h_ => h_.1))) (Kd.S_base ho0) hb); have n1_ := Aside0.mk (Kd.S_elder' (by (with_reducible repeat (first | apply Kd.S_alloc | apply Kd.S_drewN | apply Kd.S_drew)); exact (Kd.S_mono (Kd.S_far (p := ⟨gb52, 1, none⟩) (Kd.S_far (p := ⟨gb52, 0, none⟩) (Kd.S_types HO57.out BK52.out (by decide)) (fun _ hk => hk.2) (.int .i64 t58)) (fun _ hk => hk.2) (.int .i64 t66)) (fun _ h_ => h_.1))) (Kd.S_base ho1) hb); have n2_ := Aside0.mk (Kd.S_lower (Kd.S_new' ho0 (Kd.S_lt (by (with_reducible repeat (first | apply Kd.S_alloc | apply Kd.S_drewN | apply Kd.S_drew)); exact (Kd.S_mono (Kd.S_far (p := ⟨gb52, 1, none⟩) (Kd.S_far (p := ⟨gb52, 0, none⟩) (Kd.S_types HO56.out BK52.out (by decide)) (fun _ hk => hk.2) (.int .i64 t58)) (fun _ hk => hk.2) (.int .i64 t66)) (fun _ h_ => h_.1))))) (below_size (by apply_rules [HB.out, below_alloc, pw_below_drewN, below_drew1, below_set, GE50.out, GE52.out]))); have n3_ := Aside0.mk (Kd.S_lower (Kd.S_new' ho1 (Kd.S_lt (by (with_reducible repeat (first | apply Kd.S_alloc | apply Kd.S_drewN | apply Kd.S_drew)); exact (Kd.S_mono (Kd.S_far (p := ⟨gb52, 1, none⟩) (Kd.S_far (p := ⟨gb52, 0, none⟩) (Kd.S_types HO57.out BK52.out (by decide)) (fun _ hk => hk.2) (.int .i64 t58)) (fun _ hk => hk.2) (.int .i64 t66)) (fun _ h_ => h_.1))))) (below_size (by apply_rules [HB.out, below_alloc, pw_below_drewN, below_drew1, below_set, GE50.out, GE52.out]))); have n4_ := Aside0.mk (blk_below (g := gb50) (o := .cells #[.int .i64 a0_0, .int .i64 a0_1, .slice A0_2 l0_2.length c0_2, .slice A0_3 l0_3.length c0_3] 25 (0, 0)) (by (with_reducible repeat (first | refine blk_drewN ?_ _ | refine blk_drew ?_ | refine blk_alloc ?_ _)); refine blk_far ?_ NB488_500.out _; (with_reducible repeat (first | refine blk_drewN ?_ _ | refine blk_drew ?_ | refine blk_alloc ?_ _)); refine blk_far ?_ NB488_500.out _; apply_rules [BK50.out, blk_drewN, blk_drew, blk_alloc]) hb); have n5_ := Aside0.mk (blk_below (g := gb52) (o := .cells #[.int .i64 t58, .int .i64 t66] 48 (0, 0)) (by (with_reducible repeat (first | refine blk_drewN ?_ _ | refine blk_drew ?_ | refine blk_alloc ?_ _)); refine blk_put (cs := #[.int .i64 t58, .int .i64 0]) ?_ 1 _ rfl; (with_reducible repeat (first | refine blk_drewN ?_ _ | refine blk_drew ?_ | refine blk_alloc ?_ _)); refine blk_put (cs := #[.int .i64 0, .int .i64 0]) ?_ 0 _ rfl; apply_rules [BK52.out, blk_drewN, blk_drew, blk_alloc]) hb); have n6_ := Aside0.mk (below_step (by apply_rules [HB.out, below_alloc, pw_below_drewN, below_drew1, below_set, GE50.out, GE52.out]) hb); clear HO56; clear HO57; clear BK50; clear BK52; clear HB; have HO56 := n0_; have HO57 := n1_; have HO59 := n2_; have HO60 := n3_; have BK50 := n4_; have BK52 := n5_; have HB := n6_; clear n0_ n1_ n2_ n3_ n4_ n5_ n6_; (try clear hb); (try clear hb2); (try clear hk); (try clear hi); (try clear ho0); (try clear ho1)) | ((with_reducible refine gate_dst (N := 9) rfl ?_); refine box_event ?hg (N := 9) ?hd (cs := #[.int .i64 0, .int .i64 0, .slice none 0 0, .slice none 0 0]) (t := 31) ?hr ?_; (case hd => rfl); (case hg => rfl); (case hr => first | (go_simp; done) | (go_simp; rfl)); intro gb51 hg w31 hbox hb; have n0_ := Aside0.mk (Kd.S_below (by (with_reducible repeat (first | apply Kd.S_alloc | apply Kd.S_drewN | apply Kd.S_drew)); exact HO56.out) hb); have n1_ := Aside0.mk (Kd.S_below (by (with_reducible repeat (first | apply Kd.S_alloc | apply Kd.S_drewN | apply Kd.S_drew)); exact HO57.out) hb); have n2_ := Aside0.mk (Kd.S_below (by (with_reducible repeat (first | apply Kd.S_alloc | apply Kd.S_drewN | apply Kd.S_drew)); exact HO59.out) hb); have n3_ := Aside0.mk (Kd.S_below (by (with_reducible repeat (first | apply Kd.S_alloc | apply Kd.S_drewN | apply Kd.S_drew)); exact HO60.out) hb); have n4_ := Aside0.mk (blk_below (g := gb50) (o := .cells #[.int .i64 a0_0, .int .i64 a0_1, .slice A0_2 l0_2.length c0_2, .slice A0_3 l0_3.length c0_3] 25 (0, 0)) (by apply_rules [BK50.out, blk_drewN, blk_drew, blk_alloc]) hb); have n5_ := Aside0.mk (blk_below (g := gb52) (o := .cells #[.int .i64 t58, .int .i64 t66] 48 (0, 0)) (by apply_rules [BK52.out, blk_drewN, blk_drew, blk_alloc]) hb); have n6_ := Aside0.mk (below_step (by apply_rules [HB.out, below_alloc, pw_below_drewN, below_drew1, below_set, GE50.out, GE52.out]) hb); have n7_ := Aside0.mk (hbox); have n8_ := Aside0.mk ((by rw [hg]; exact (below_size (by apply_rules [HB.out, below_alloc, pw_below_drewN, below_drew1, below_set, GE50.out, GE52.out])) : w.heap.size ≤ gb51)); have n9_ := n8_; have n10_ := Aside0.mk ((by rw [hg]; exact Nat.ne_of_lt (blk_lt (g := gb50) (o := .cells #[.int .i64 a0_0, .int .i64 a0_1, .slice A0_2 l0_2.length c0_2, .slice A0_3 l0_3.length c0_3] 25 (0, 0)) (by apply_rules [BK50.out, blk_drewN, blk_drew, blk_alloc])) : gb50 ≠ gb51)); have n11_ := Aside0.mk ((by rw [hg]; exact Nat.ne_of_gt (blk_lt (g := gb50) (o := .cells #[.int .i64 a0_0, .int .i64 a0_1, .slice A0_2 l0_2.length c0_2, .slice A0_3 l0_3.length c0_3] 25 (0, 0)) (by apply_rules [BK50.out, blk_drewN, blk_drew, blk_alloc])) : gb51 ≠ gb50)); have n12_ := Aside0.mk ((by rw [hg]; exact Nat.ne_of_lt (blk_lt (g := gb52) (o := .cells #[.int .i64 t58, .int .i64 t66] 48 (0, 0)) (by apply_rules [BK52.out, blk_drewN, blk_drew, blk_alloc])) : gb52 ≠ gb51)); have n13_ := Aside0.mk ((by rw [hg]; exact Nat.ne_of_gt (blk_lt (g := gb52) (o := .cells #[.int .i64 t58, .int .i64 t66] 48 (0, 0)) (by apply_rules [BK52.out, blk_drewN, blk_drew, blk_alloc])) : gb51 ≠ gb52)); clear HO56; clear HO57; clear HO59; clear HO60; clear BK50; clear BK52; clear HB; have HO56 := n0_; have HO57 := n1_; have HO59 := n2_; have HO60 := n3_; have BK50 := n4_; have BK52 := n5_; have HB := n6_; have BK51 := n7_; have GW51 := n8_; have GE51 := n9_; have NB488_509 := n10_; have NB509_488 := n11_; have NB500_509 := n12_; have NB509_500 := n13_; clear n0_ n1_ n2_ n3_ n4_ n5_ n6_ n7_ n8_ n9_ n10_ n11_ n12_ n13_; clear hb hbox hg; have hnb32 := NB509_488.out; have hnc32 := NB488_509.out; have hnb33 := NB509_500.out; have hnc33 := NB500_509.out; obtain ⟨hcz34_0, hcz34_1, hcz34_2, hcz34_3, hfz34_0, hfz34_1, hfz34_2, hfz34_3⟩ := Lv.blks4 BK51.out; obtain ⟨Ao35, co35, eo35⟩ := Kd.S_slice HO59.out; subst eo35; obtain ⟨Ao36, co36, eo36⟩ := Kd.S_slice HO60.out; subst eo36) | ((with_reducible refine gate_callee (f := 29) rfl ?_); refine goesL_ (some 26) rfl rfl Try.func29 (by kernel_rfl) rfl #[.agg #[.int .i64 t53, .int .i64 t62, .slice Ao35 t63.length co35, .slice Ao36 t65.length co36], .int .i64 a1, .int .i64 a2] rfl (by first | rfl | (simp only [List.map_toArray, List.map_cons, List.map_nil]; rfl)) ?_; (with_reducible refine (impl_ReadKey.calls k t53 t62 _ _ t63 _ _ t65 a1 a2 t61 t70 _ ?side1 ?side2 ?side3 ?side4 A12.out).mono ?_); (case side1 => refine (Kd.S_reads' (e := 83) (base := w.heap.size) (ok := fun k_ => (True ∧ some k_ ≠ (.slice Ao23 t74.length co23 : Value).ownBlock)) (n := t63.length) (c := co35) ?_).2.2; exact (by (with_reducible repeat (first | apply Kd.S_alloc | apply Kd.S_drewN | apply Kd.S_drew)); exact (Kd.S_mono (Kd.S_far (p := ⟨gb51, 3, none⟩) (Kd.S_far (p := ⟨gb51, 2, none⟩) (Kd.S_far (p := ⟨gb51, 1, none⟩) (Kd.S_far (p := ⟨gb51, 0, none⟩) (Kd.S_types HO59.out BK51.out (by decide)) (fun _ hk => hk.2) (.int .i64 t53)) (fun _ hk => hk.2) (.int .i64 t62)) (fun _ hk => hk.2) (.slice Ao35 t63.length co35)) (fun _ hk => hk.2) (.slice Ao36 t65.length co36)) (fun _ h_ => h_.1)))); (case side2 => exact (Kd.S_reads' HO59.out).2.1); (case side3 => refine (Kd.S_reads' (e := 87) (base := w.heap.size) (ok := fun k_ => (True ∧ some k_ ≠ (.slice Ao24 t75.length co24 : Value).ownBlock)) (n := t65.length) (c := co36) ?_).2.2; exact (by (with_reducible repeat (first | apply Kd.S_alloc | apply Kd.S_drewN | apply Kd.S_drew)); exact (Kd.S_mono (Kd.S_far (p := ⟨gb51, 3, none⟩) (Kd.S_far (p := ⟨gb51, 2, none⟩) (Kd.S_far (p := ⟨gb51, 1, none⟩) (Kd.S_far (p := ⟨gb51, 0, none⟩) (Kd.S_types HO60.out BK51.out (by decide)) (fun _ hk => hk.2) (.int .i64 t53)) (fun _ hk => hk.2) (.int .i64 t62)) (fun _ hk => hk.2) (.slice Ao35 t63.length co35)) (fun _ hk => hk.2) (.slice Ao36 t65.length co36)) (fun _ h_ => h_.1)))); (case side4 => exact (Kd.S_reads' HO60.out).2.1); rintro e w37 ⟨rfl, hb⟩; refine ⟨_, rfl, ?_⟩; have n0_ := Aside0.mk (Kd.S_below (by (with_reducible repeat (first | apply Kd.S_alloc | apply Kd.S_drewN | apply Kd.S_drew)); exact (Kd.S_mono (Kd.S_far (p := ⟨gb51, 3, none⟩) (Kd.S_far (p := ⟨gb51, 2, none⟩) (Kd.S_far (p := ⟨gb51, 1, none⟩) (Kd.S_far (p := ⟨gb51, 0, none⟩) (Kd.S_types HO56.out BK51.out (by decide)) (fun _ hk => hk.2) (.int .i64 t53)) (fun _ hk => hk.2) (.int .i64 t62)) (fun _ hk => hk.2) (.slice Ao35 t63.length co35)) (fun _ hk => hk.2) (.slice Ao36 t65.length co36)) (fun _ h_ => h_.1))) hb); have n1_ := Aside0.mk (Kd.S_below (by (with_reducible repeat (first | apply Kd.S_alloc | apply Kd.S_drewN | apply Kd.S_drew)); exact (Kd.S_mono (Kd.S_far (p := ⟨gb51, 3, none⟩) (Kd.S_far (p := ⟨gb51, 2, none⟩) (Kd.S_far (p := ⟨gb51, 1, none⟩) (Kd.S_far (p := ⟨gb51, 0, none⟩) (Kd.S_types HO57.out BK51.out (by decide)) (fun _ hk => hk.2) (.int .i64 t53)) (fun _ hk => hk.2) (.int .i64 t62)) (fun _ hk => hk.2) (.slice Ao35 t63.length co35)) (fun _ hk => hk.2) (.slice Ao36 t65.length co36)) (fun _ h_ => h_.1))) hb); have n2_ := Aside0.mk (Kd.S_below (by (with_reducible repeat (first | apply Kd.S_alloc | apply Kd.S_drewN | apply Kd.S_drew)); exact (Kd.S_mono (Kd.S_far (p := ⟨gb51, 3, none⟩) (Kd.S_far (p := ⟨gb51, 2, none⟩) (Kd.S_far (p := ⟨gb51, 1, none⟩) (Kd.S_far (p := ⟨gb51, 0, none⟩) (Kd.S_types HO59.out BK51.out (by decide)) (fun _ hk => hk.2) (.int .i64 t53)) (fun _ hk => hk.2) (.int .i64 t62)) (fun _ hk => hk.2) (.slice Ao35 t63.length co35)) (fun _ hk => hk.2) (.slice Ao36 t65.length co36)) (fun _ h_ => h_.1))) hb); have n3_ := Aside0.mk (Kd.S_below (by (with_reducible repeat (first | apply Kd.S_alloc | apply Kd.S_drewN | apply Kd.S_drew)); exact (Kd.S_mono (Kd.S_far (p := ⟨gb51, 3, none⟩) (Kd.S_far (p := ⟨gb51, 2, none⟩) (Kd.S_far (p := ⟨gb51, 1, none⟩) (Kd.S_far (p := ⟨gb51, 0, none⟩) (Kd.S_types HO60.out BK51.out (by decide)) (fun _ hk => hk.2) (.int .i64 t53)) (fun _ hk => hk.2) (.int .i64 t62)) (fun _ hk => hk.2) (.slice Ao35 t63.length co35)) (fun _ hk => hk.2) (.slice Ao36 t65.length co36)) (fun _ h_ => h_.1))) hb); have n4_ := Aside0.mk (blk_below (g := gb50) (o := .cells #[.int .i64 a0_0, .int .i64 a0_1, .slice A0_2 l0_2.length c0_2, .slice A0_3 l0_3.length c0_3] 25 (0, 0)) (by (with_reducible repeat (first | refine blk_drewN ?_ _ | refine blk_drew ?_ | refine blk_alloc ?_ _)); refine blk_far ?_ NB488_509.out _; (with_reducible repeat (first | refine blk_drewN ?_ _ | refine blk_drew ?_ | refine blk_alloc ?_ _)); refine blk_far ?_ NB488_509.out _; (with_reducible repeat (first | refine blk_drewN ?_ _ | refine blk_drew ?_ | refine blk_alloc ?_ _)); refine blk_far ?_ NB488_509.out _; (with_reducible repeat (first | refine blk_drewN ?_ _ | refine blk_drew ?_ | refine blk_alloc ?_ _)); refine blk_far ?_ NB488_509.out _; apply_rules [BK50.out, blk_drewN, blk_drew, blk_alloc]) hb); have n5_ := Aside0.mk (blk_below (g := gb52) (o := .cells #[.int .i64 t58, .int .i64 t66] 48 (0, 0)) (by (with_reducible repeat (first | refine blk_drewN ?_ _ | refine blk_drew ?_ | refine blk_alloc ?_ _)); refine blk_far ?_ NB500_509.out _; (with_reducible repeat (first | refine blk_drewN ?_ _ | refine blk_drew ?_ | refine blk_alloc ?_ _)); refine blk_far ?_ NB500_509.out _; (with_reducible repeat (first | refine blk_drewN ?_ _ | refine blk_drew ?_ | refine blk_alloc ?_ _)); refine blk_far ?_ NB500_509.out _; (with_reducible repeat (first | refine blk_drewN ?_ _ | refine blk_drew ?_ | refine blk_alloc ?_ _)); refine blk_far ?_ NB500_509.out _; apply_rules [BK52.out, blk_drewN, blk_drew, blk_alloc]) hb); have n6_ := Aside0.mk (blk_below (g := gb51) (o := .cells #[.int .i64 t53, .int .i64 t62, .slice Ao35 t63.length co35, .slice Ao36 t65.length co36] 31 (0, 0)) (by (with_reducible repeat (first | refine blk_drewN ?_ _ | refine blk_drew ?_ | refine blk_alloc ?_ _)); refine blk_put (cs := #[.int .i64 t53, .int .i64 t62, .slice Ao35 t63.length co35, .slice none 0 0]) ?_ 3 _ rfl; (with_reducible repeat (first | refine blk_drewN ?_ _ | refine blk_drew ?_ | refine blk_alloc ?_ _)); refine blk_put (cs := #[.int .i64 t53, .int .i64 t62, .slice none 0 0, .slice none 0 0]) ?_ 2 _ rfl; (with_reducible repeat (first | refine blk_drewN ?_ _ | refine blk_drew ?_ | refine blk_alloc ?_ _)); refine blk_put (cs := #[.int .i64 t53, .int .i64 0, .slice none 0 0, .slice none 0 0]) ?_ 1 _ rfl; (with_reducible repeat (first | refine blk_drewN ?_ _ | refine blk_drew ?_ | refine blk_alloc ?_ _)); refine blk_put (cs := #[.int .i64 0, .int .i64 0, .slice none 0 0, .slice none 0 0]) ?_ 0 _ rfl; apply_rules [BK51.out, blk_drewN, blk_drew, blk_alloc]) hb); have n7_ := Aside0.mk (below_step (by apply_rules [HB.out, below_alloc, pw_below_drewN, below_drew1, below_set, GE50.out, GE52.out, GE51.out]) hb); clear HO56; clear HO57; clear HO59; clear HO60; clear BK50; clear BK52; clear BK51; clear HB; have HO56 := n0_; have HO57 := n1_; have HO59 := n2_; have HO60 := n3_; have BK50 := n4_; have BK52 := n5_; have BK51 := n6_; have HB := n7_; clear n0_ n1_ n2_ n3_ n4_ n5_ n6_ n7_; (try clear hb); (try clear hb2); (try clear hk); (try clear hi)) | ((with_reducible refine gate_dst (N := 10) rfl ?_); refine box_event ?hg (N := 10) ?hd (cs := #[.int .i64 0, .int .i64 0]) (t := 48) ?hr ?_; (case hd => rfl); (case hg => rfl); (case hr => first | (go_simp; done) | (go_simp; rfl)); intro gb54 hg w38 hbox hb; have n0_ := Aside0.mk (Kd.S_below (by (with_reducible repeat (first | apply Kd.S_alloc | apply Kd.S_drewN | apply Kd.S_drew)); exact HO56.out) hb); have n1_ := Aside0.mk (Kd.S_below (by (with_reducible repeat (first | apply Kd.S_alloc | apply Kd.S_drewN | apply Kd.S_drew)); exact HO57.out) hb); have n2_ := Aside0.mk (Kd.S_below (by (with_reducible repeat (first | apply Kd.S_alloc | apply Kd.S_drewN | apply Kd.S_drew)); exact HO59.out) hb); have n3_ := Aside0.mk (Kd.S_below (by (with_reducible repeat (first | apply Kd.S_alloc | apply Kd.S_drewN | apply Kd.S_drew)); exact HO60.out) hb); have n4_ := Aside0.mk (blk_below (g := gb50) (o := .cells #[.int .i64 a0_0, .int .i64 a0_1, .slice A0_2 l0_2.length c0_2, .slice A0_3 l0_3.length c0_3] 25 (0, 0)) (by apply_rules [BK50.out, blk_drewN, blk_drew, blk_alloc]) hb); have n5_ := Aside0.mk (blk_below (g := gb52) (o := .cells #[.int .i64 t58, .int .i64 t66] 48 (0, 0)) (by apply_rules [BK52.out, blk_drewN, blk_drew, blk_alloc]) hb); have n6_ := Aside0.mk (blk_below (g := gb51) (o := .cells #[.int .i64 t53, .int .i64 t62, .slice Ao35 t63.length co35, .slice Ao36 t65.length co36] 31 (0, 0)) (by apply_rules [BK51.out, blk_drewN, blk_drew, blk_alloc]) hb); have n7_ := Aside0.mk (below_step (by apply_rules [HB.out, below_alloc, pw_below_drewN, below_drew1, below_set, GE50.out, GE52.out, GE51.out]) hb); have n8_ := Aside0.mk (hbox); have n9_ := Aside0.mk ((by rw [hg]; exact (below_size (by apply_rules [HB.out, below_alloc, pw_below_drewN, below_drew1, below_set, GE50.out, GE52.out, GE51.out])) : w.heap.size ≤ gb54)); have n10_ := n9_; have n11_ := Aside0.mk ((by rw [hg]; exact Nat.ne_of_lt (blk_lt (g := gb50) (o := .cells #[.int .i64 a0_0, .int .i64 a0_1, .slice A0_2 l0_2.length c0_2, .slice A0_3 l0_3.length c0_3] 25 (0, 0)) (by apply_rules [BK50.out, blk_drewN, blk_drew, blk_alloc])) : gb50 ≠ gb54)); have n12_ := Aside0.mk ((by rw [hg]; exact Nat.ne_of_gt (blk_lt (g := gb50) (o := .cells #[.int .i64 a0_0, .int .i64 a0_1, .slice A0_2 l0_2.length c0_2, .slice A0_3 l0_3.length c0_3] 25 (0, 0)) (by apply_rules [BK50.out, blk_drewN, blk_drew, blk_alloc])) : gb54 ≠ gb50)); have n13_ := Aside0.mk ((by rw [hg]; exact Nat.ne_of_lt (blk_lt (g := gb52) (o := .cells #[.int .i64 t58, .int .i64 t66] 48 (0, 0)) (by apply_rules [BK52.out, blk_drewN, blk_drew, blk_alloc])) : gb52 ≠ gb54)); have n14_ := Aside0.mk ((by rw [hg]; exact Nat.ne_of_gt (blk_lt (g := gb52) (o := .cells #[.int .i64 t58, .int .i64 t66] 48 (0, 0)) (by apply_rules [BK52.out, blk_drewN, blk_drew, blk_alloc])) : gb54 ≠ gb52)); have n15_ := Aside0.mk ((by rw [hg]; exact Nat.ne_of_lt (blk_lt (g := gb51) (o := .cells #[.int .i64 t53, .int .i64 t62, .slice Ao35 t63.length co35, .slice Ao36 t65.length co36] 31 (0, 0)) (by apply_rules [BK51.out, blk_drewN, blk_drew, blk_alloc])) : gb51 ≠ gb54)); have n16_ := Aside0.mk ((by rw [hg]; exact Nat.ne_of_gt (blk_lt (g := gb51) (o := .cells #[.int .i64 t53, .int .i64 t62, .slice Ao35 t63.length co35, .slice Ao36 t65.length co36] 31 (0, 0)) (by apply_rules [BK51.out, blk_drewN, blk_drew, blk_alloc])) : gb54 ≠ gb51)); clear HO56; clear HO57; clear HO59; clear HO60; clear BK50; clear BK52; clear BK51; clear HB; have HO56 := n0_; have HO57 := n1_; have HO59 := n2_; have HO60 := n3_; have BK50 := n4_; have BK52 := n5_; have BK51 := n6_; have HB := n7_; have BK54 := n8_; have GW54 := n9_; have GE54 := n10_; have NB488_512 := n11_; have NB512_488 := n12_; have NB500_512 := n13_; have NB512_500 := n14_; have NB509_512 := n15_; have NB512_509 := n16_; clear n0_ n1_ n2_ n3_ n4_ n5_ n6_ n7_ n8_ n9_ n10_ n11_ n12_ n13_ n14_ n15_ n16_; clear hb hbox hg; have hnb39 := NB512_488.out; have hnc39 := NB488_512.out; have hnb40 := NB512_500.out; have hnc40 := NB500_512.out; have hnb41 := NB512_509.out; have hnc41 := NB509_512.out; obtain ⟨hcz42_0, hcz42_1, hfz42_0, hfz42_1⟩ := Lv.blks2 BK54.out; obtain ⟨hcz43_0, hcz43_1, hfz43_0, hfz43_1⟩ := Lv.blks2 BK52.out) | ((with_reducible refine gate_callee (f := 27) rfl ?_); refine goesL_ (some 29) rfl rfl Try.func27 (by kernel_rfl) rfl #[.agg #[.int .i64 t61, .int .i64 t70], .agg #[.int .i64 t58, .int .i64 t66]] rfl (by first | rfl | (simp only [List.map_toArray, List.map_cons, List.map_nil]; rfl)) ?_; (with_reducible refine (laws_eqIntResult.calls t61 t70 t58 t66 true _ A13.out).mono ?_); rintro e w44 ⟨rfl, hb⟩; refine ⟨_, rfl, ?_⟩; have n0_ := Aside0.mk (Kd.S_below (by (with_reducible repeat (first | apply Kd.S_alloc | apply Kd.S_drewN | apply Kd.S_drew)); exact (Kd.S_mono (Kd.S_far (p := ⟨gb54, 1, none⟩) (Kd.S_far (p := ⟨gb54, 0, none⟩) (Kd.S_types HO56.out BK54.out (by decide)) (fun _ hk => hk.2) (.int .i64 t61)) (fun _ hk => hk.2) (.int .i64 t70)) (fun _ h_ => h_.1))) hb); have n1_ := Aside0.mk (Kd.S_below (by (with_reducible repeat (first | apply Kd.S_alloc | apply Kd.S_drewN | apply Kd.S_drew)); exact (Kd.S_mono (Kd.S_far (p := ⟨gb54, 1, none⟩) (Kd.S_far (p := ⟨gb54, 0, none⟩) (Kd.S_types HO57.out BK54.out (by decide)) (fun _ hk => hk.2) (.int .i64 t61)) (fun _ hk => hk.2) (.int .i64 t70)) (fun _ h_ => h_.1))) hb); have n2_ := Aside0.mk (Kd.S_below (by (with_reducible repeat (first | apply Kd.S_alloc | apply Kd.S_drewN | apply Kd.S_drew)); exact (Kd.S_mono (Kd.S_far (p := ⟨gb54, 1, none⟩) (Kd.S_far (p := ⟨gb54, 0, none⟩) (Kd.S_types HO59.out BK54.out (by decide)) (fun _ hk => hk.2) (.int .i64 t61)) (fun _ hk => hk.2) (.int .i64 t70)) (fun _ h_ => h_.1))) hb); have n3_ := Aside0.mk (Kd.S_below (by (with_reducible repeat (first | apply Kd.S_alloc | apply Kd.S_drewN | apply Kd.S_drew)); exact (Kd.S_mono (Kd.S_far (p := ⟨gb54, 1, none⟩) (Kd.S_far (p := ⟨gb54, 0, none⟩) (Kd.S_types HO60.out BK54.out (by decide)) (fun _ hk => hk.2) (.int .i64 t61)) (fun _ hk => hk.2) (.int .i64 t70)) (fun _ h_ => h_.1))) hb); have n4_ := Aside0.mk (blk_below (g := gb50) (o := .cells #[.int .i64 a0_0, .int .i64 a0_1, .slice A0_2 l0_2.length c0_2, .slice A0_3 l0_3.length c0_3] 25 (0, 0)) (by (with_reducible repeat (first | refine blk_drewN ?_ _ | refine blk_drew ?_ | refine blk_alloc ?_ _)); refine blk_far ?_ NB488_512.out _; (with_reducible repeat (first | refine blk_drewN ?_ _ | refine blk_drew ?_ | refine blk_alloc ?_ _)); refine blk_far ?_ NB488_512.out _; apply_rules [BK50.out, blk_drewN, blk_drew, blk_alloc]) hb); have n5_ := Aside0.mk (blk_below (g := gb52) (o := .cells #[.int .i64 t58, .int .i64 t66] 48 (0, 0)) (by (with_reducible repeat (first | refine blk_drewN ?_ _ | refine blk_drew ?_ | refine blk_alloc ?_ _)); refine blk_far ?_ NB500_512.out _; (with_reducible repeat (first | refine blk_drewN ?_ _ | refine blk_drew ?_ | refine blk_alloc ?_ _)); refine blk_far ?_ NB500_512.out _; apply_rules [BK52.out, blk_drewN, blk_drew, blk_alloc]) hb); have n6_ := Aside0.mk (blk_below (g := gb51) (o := .cells #[.int .i64 t53, .int .i64 t62, .slice Ao35 t63.length co35, .slice Ao36 t65.length co36] 31 (0, 0)) (by (with_reducible repeat (first | refine blk_drewN ?_ _ | refine blk_drew ?_ | refine blk_alloc ?_ _)); refine blk_far ?_ NB509_512.out _; (with_reducible repeat (first | refine blk_drewN ?_ _ | refine blk_drew ?_ | refine blk_alloc ?_ _)); refine blk_far ?_ NB509_512.out _; apply_rules [BK51.out, blk_drewN, blk_drew, blk_alloc]) hb); have n7_ := Aside0.mk (blk_below (g := gb54) (o := .cells #[.int .i64 t61, .int .i64 t70] 48 (0, 0)) (by (with_reducible repeat (first | refine blk_drewN ?_ _ | refine blk_drew ?_ | refine blk_alloc ?_ _)); refine blk_put (cs := #[.int .i64 t61, .int .i64 0]) ?_ 1 _ rfl; (with_reducible repeat (first | refine blk_drewN ?_ _ | refine blk_drew ?_ | refine blk_alloc ?_ _)); refine blk_put (cs := #[.int .i64 0, .int .i64 0]) ?_ 0 _ rfl; apply_rules [BK54.out, blk_drewN, blk_drew, blk_alloc]) hb); have n8_ := Aside0.mk (below_step (by apply_rules [HB.out, below_alloc, pw_below_drewN, below_drew1, below_set, GE50.out, GE52.out, GE51.out, GE54.out]) hb); clear HO56; clear HO57; clear HO59; clear HO60; clear BK50; clear BK52; clear BK51; clear BK54; clear HB; have HO56 := n0_; have HO57 := n1_; have HO59 := n2_; have HO60 := n3_; have BK50 := n4_; have BK52 := n5_; have BK51 := n6_; have BK54 := n7_; have HB := n8_; clear n0_ n1_ n2_ n3_ n4_ n5_ n6_ n7_ n8_; (try clear hb); (try clear hb2); (try clear hk); (try clear hi)))
   have n0_ := Aside0.mk (Kd.S_drew HO56.out)
   have n1_ := Aside0.mk (Kd.S_drew HO57.out)
   have n2_ := Aside0.mk (Kd.S_drew HO59.out)
   have n3_ := Aside0.mk (Kd.S_drew HO60.out)
   have n4_ := Aside0.mk (blk_drew BK50.out)
   have n5_ := Aside0.mk (blk_drew BK52.out)
   have n6_ := Aside0.mk (blk_drew BK51.out)
   have n7_ := Aside0.mk (blk_drew BK54.out)
   have n8_ := Aside0.mk (below_drew1 HB.out)
   clear HO56
   clear HO57
   clear HO59
   clear HO60
   clear BK50
   clear BK52
   clear BK51
   clear BK54
   clear HB
   have HO56 := n0_
   have HO57 := n1_
   have HO59 := n2_
   have HO60 := n3_
   have BK50 := n4_
   have BK52 := n5_
   have BK51 := n6_
   have BK54 := n7_
   have HB := n8_
   clear n0_ n1_ n2_ n3_ n4_ n5_ n6_ n7_ n8_
   refine start_ (n := 5) (S := fun w' => w'.cell? ⟨gb51, 0, none⟩ = some (.int .i64 t53) ∧ w'.cell? ⟨gb51, 1, none⟩ = some (.int .i64 t62) ∧ w'.cell? ⟨gb51, 2, none⟩ = some (.slice Ao35 t63.length co35) ∧ w'.cell? ⟨gb51, 3, none⟩ = some (.slice Ao36 t65.length co36) ∧ w'.cell? ⟨gb50, 0, none⟩ = some (.int .i64 a0_0) ∧ w'.cell? ⟨gb50, 1, none⟩ = some (.int .i64 a0_1) ∧ w'.cell? ⟨gb50, 2, none⟩ = some (.slice A0_2 l0_2.length c0_2) ∧ w'.cell? ⟨gb50, 3, none⟩ = some (.slice A0_3 l0_3.length c0_3)) (ds := []) #[false, false, false, false, false] (by kernel_rfl) rfl rfl ⟨(blk_cell BK51.out 0).trans rfl, (blk_cell BK51.out 1).trans rfl, (blk_cell BK51.out 2).trans rfl, (blk_cell BK51.out 3).trans rfl, (blk_cell BK50.out 0).trans rfl, (blk_cell BK50.out 1).trans rfl, (blk_cell BK50.out 2).trans rfl, (blk_cell BK50.out 3).trans rfl⟩ (fun hHeld => ?_)
   generalize w44.drew = w45 at HO56 HO57 HO59 HO60 BK50 BK52 BK51 BK54 HB hHeld ⊢
   refine take_ (i := 0) (N := some 31) (v := ?_) (a' := ?_) #[true, false, false, false, false] rfl rfl (by kernel_rfl) (fun _ _ _ h => h) (Or.inl ⟨by rfl, ?_⟩) hHeld ?_ ?_
   rotate_left
   ·rintro w' ⟨s0, s1, s2, s3, s4, s5, s6, s7⟩
    go_simp
    with_reducible rfl
   rotate_left
   ·simp only [Act.put, List.setIfInBounds_toArray, List.set_cons_zero, List.set_cons_succ, i64_w, i32_w]
    rfl
   refine take_ (i := 1) (N := some 32) (v := ?_) (a' := ?_) #[true, true, false, false, false] rfl rfl (by kernel_rfl) (fun _ _ _ h => h) (Or.inl ⟨by rfl, ?_⟩) hHeld ?_ ?_
   rotate_left
   ·rintro w' ⟨s0, s1, s2, s3, s4, s5, s6, s7⟩
    go_simp
    with_reducible rfl
   rotate_left
   ·simp only [Act.put, List.setIfInBounds_toArray, List.set_cons_zero, List.set_cons_succ, i64_w, i32_w]
    rfl
   refine one_ (i := 2) (N := some 33) #[true, true, true, false, false] rfl rfl (by kernel_rfl) (by decide) (fun K hK => ?_)
   refine goes_ Try.func13 (by kernel_rfl) rfl #[.agg #[.int .i64 a0_0, .int .i64 a0_1, .slice A0_2 l0_2.length c0_2, .slice A0_3 l0_3.length c0_3]] (by rfl) rfl rfl (by first | rfl | (simp only [List.map_toArray, List.map_cons, List.map_nil]; rfl)) ?_
   with_reducible refine (laws_toEngine.calls k a0_0 a0_1 _ _ l0_2 _ _ l0_3 t55 t77 t78 t79 _ ?side1 ?side2 ?side3 ?side4 A15.out).mono ?_
   (case side1 => repeat (first | exact (Kd.C_below HR0_2.out HB.out) | (with_reducible first | refine Kd.C_alloc ?_ _ | refine Kd.C_drewN ?_ _ | refine Kd.C_drew ?_)))
   (case side2 => exact HC0_2.out)
   (case side3 => repeat (first | exact (Kd.C_below HR0_3.out HB.out) | (with_reducible first | refine Kd.C_alloc ?_ _ | refine Kd.C_drewN ?_ _ | refine Kd.C_drew ?_)))
   (case side4 => exact HC0_3.out)
   rintro e w46 ⟨v93, v94, rfl, ho0, ho1, hb⟩
   refine ⟨_, rfl, ?_⟩
   have n0_ := Aside0.mk (Kd.S_elder' (by (with_reducible repeat (first | apply Kd.S_alloc | apply Kd.S_drewN | apply Kd.S_drew)); exact HO56.out) (Kd.S_base ho0) hb)
   have n1_ := Aside0.mk (Kd.S_elder' (by (with_reducible repeat (first | apply Kd.S_alloc | apply Kd.S_drewN | apply Kd.S_drew)); exact HO57.out) (Kd.S_base ho1) hb)
   have n2_ := Aside0.mk (Kd.S_elder' (by (with_reducible repeat (first | apply Kd.S_alloc | apply Kd.S_drewN | apply Kd.S_drew)); exact HO59.out) (Kd.S_base ho0) hb)
   have n3_ := Aside0.mk (Kd.S_elder' (by (with_reducible repeat (first | apply Kd.S_alloc | apply Kd.S_drewN | apply Kd.S_drew)); exact HO60.out) (Kd.S_base ho1) hb)
   have n4_ := Aside0.mk (Kd.S_lower (Kd.S_new' (Kd.S_new' ho0 (Kd.S_lt (by (with_reducible repeat (first | apply Kd.S_alloc | apply Kd.S_drewN | apply Kd.S_drew)); exact HO56.out))) (Kd.S_lt (by (with_reducible repeat (first | apply Kd.S_alloc | apply Kd.S_drewN | apply Kd.S_drew)); exact HO59.out))) (below_size (by apply_rules [HB.out, below_alloc, pw_below_drewN, below_drew1, below_set, GE50.out, GE52.out, GE51.out, GE54.out])))
   have n5_ := Aside0.mk (Kd.S_lower (Kd.S_new' (Kd.S_new' ho1 (Kd.S_lt (by (with_reducible repeat (first | apply Kd.S_alloc | apply Kd.S_drewN | apply Kd.S_drew)); exact HO57.out))) (Kd.S_lt (by (with_reducible repeat (first | apply Kd.S_alloc | apply Kd.S_drewN | apply Kd.S_drew)); exact HO60.out))) (below_size (by apply_rules [HB.out, below_alloc, pw_below_drewN, below_drew1, below_set, GE50.out, GE52.out, GE51.out, GE54.out])))
   have n6_ := Aside0.mk (blk_below (g := gb50) (o := .cells #[.int .i64 a0_0, .int .i64 a0_1, .slice A0_2 l0_2.length c0_2, .slice A0_3 l0_3.length c0_3] 25 (0, 0)) (by apply_rules [BK50.out, blk_drewN, blk_drew, blk_alloc]) hb)
   have n7_ := Aside0.mk (blk_below (g := gb52) (o := .cells #[.int .i64 t58, .int .i64 t66] 48 (0, 0)) (by apply_rules [BK52.out, blk_drewN, blk_drew, blk_alloc]) hb)
   have n8_ := Aside0.mk (blk_below (g := gb51) (o := .cells #[.int .i64 t53, .int .i64 t62, .slice Ao35 t63.length co35, .slice Ao36 t65.length co36] 31 (0, 0)) (by apply_rules [BK51.out, blk_drewN, blk_drew, blk_alloc]) hb)
   have n9_ := Aside0.mk (blk_below (g := gb54) (o := .cells #[.int .i64 t61, .int .i64 t70] 48 (0, 0)) (by apply_rules [BK54.out, blk_drewN, blk_drew, blk_alloc]) hb)
   have n10_ := Aside0.mk (below_step (by apply_rules [HB.out, below_alloc, pw_below_drewN, below_drew1, below_set, GE50.out, GE52.out, GE51.out, GE54.out]) hb)
   clear HO56
   clear HO57
   clear HO59
   clear HO60
   clear BK50
   clear BK52
   clear BK51
   clear BK54
   clear HB
   have HO56 := n0_
   have HO57 := n1_
   have HO59 := n2_
   have HO60 := n3_
   have HO72 := n4_
   have HO73 := n5_
   have BK50 := n6_
   have BK52 := n7_
   have BK51 := n8_
   have BK54 := n9_
   have HB := n10_
   clear n0_ n1_ n2_ n3_ n4_ n5_ n6_ n7_ n8_ n9_ n10_
   (try clear hb)
   (try clear hb2)
   (try clear hk)
   (try clear hi)
   (try clear ho0)
   (try clear ho1)
   obtain ⟨Ao47, co47, eo47⟩ := Kd.S_slice HO72.out
   (first | subst eo47 | (injection eo47 with f1_ f2_ f3_; have f4_ := f1_.symm; have f5_ := f3_.symm; clear f1_ f2_ f3_; subst f4_; subst f5_))
   obtain ⟨Ao48, co48, eo48⟩ := Kd.S_slice HO73.out
   (first | subst eo48 | (injection eo48 with f1_ f2_ f3_; have f4_ := f1_.symm; have f5_ := f3_.symm; clear f1_ f2_ f3_; subst f4_; subst f5_))
   refine hK.out _ _ ⟨(blk_cell BK51.out 0).trans rfl, (blk_cell BK51.out 1).trans rfl, (blk_cell BK51.out 2).trans rfl, (blk_cell BK51.out 3).trans rfl, (blk_cell BK50.out 0).trans rfl, (blk_cell BK50.out 1).trans rfl, (blk_cell BK50.out 2).trans rfl, (blk_cell BK50.out 3).trans rfl⟩ (fun hHeld => ?_)
   clear hK K
   refine norm_ (a' := ?_) ?_ ?_
   rotate_left
   ·show Act.put _ (some 33) _ = _
    simp only [Act.put, List.setIfInBounds_toArray, List.set_cons_zero, List.set_cons_succ, i64_w, i32_w]
    rfl
   refine one_ (i := 3) (N := some 34) #[true, true, true, true, false] rfl rfl (by kernel_rfl) (by decide) (fun K hK => ?_)
   refine goes_ Try.func15 (by kernel_rfl) rfl #[.agg #[.int .i64 t53, .int .i64 t62, .slice Ao35 t63.length co35, .slice Ao36 t65.length co36], .agg #[.int .i64 t55, .int .i64 t77, .slice Ao47 t78.length co47, .slice Ao48 t79.length co48]] (by rfl) rfl rfl (by first | rfl | (simp only [List.map_toArray, List.map_cons, List.map_nil]; rfl)) ?_
   with_reducible refine (laws_eqEngine.calls k t53 t62 _ _ t63 _ _ t65 t55 t77 _ _ t78 _ _ t79 true _ ?side1 ?side2 ?side3 ?side4 ?side5 ?side6 ?side7 ?side8 A16.out).mono ?_
   (case side1 => repeat (first | exact (Kd.S_reads' HO59.out).2.2 | (with_reducible first | refine Kd.C_alloc ?_ _ | refine Kd.C_drewN ?_ _ | refine Kd.C_drew ?_)))
   (case side2 => exact (Kd.S_reads' HO59.out).2.1)
   (case side3 => repeat (first | exact (Kd.S_reads' HO60.out).2.2 | (with_reducible first | refine Kd.C_alloc ?_ _ | refine Kd.C_drewN ?_ _ | refine Kd.C_drew ?_)))
   (case side4 => exact (Kd.S_reads' HO60.out).2.1)
   (case side5 => repeat (first | exact (Kd.S_reads' HO72.out).2.2 | (with_reducible first | refine Kd.C_alloc ?_ _ | refine Kd.C_drewN ?_ _ | refine Kd.C_drew ?_)))
   (case side6 => exact (Kd.S_reads' HO72.out).2.1)
   (case side7 => repeat (first | exact (Kd.S_reads' HO73.out).2.2 | (with_reducible first | refine Kd.C_alloc ?_ _ | refine Kd.C_drewN ?_ _ | refine Kd.C_drew ?_)))
   (case side8 => exact (Kd.S_reads' HO73.out).2.1)
   rintro e w49 ⟨rfl, hb⟩
   refine ⟨_, rfl, ?_⟩
   have n0_ := Aside0.mk (Kd.S_below (by (with_reducible repeat (first | apply Kd.S_alloc | apply Kd.S_drewN | apply Kd.S_drew)); exact HO56.out) hb)
   have n1_ := Aside0.mk (Kd.S_below (by (with_reducible repeat (first | apply Kd.S_alloc | apply Kd.S_drewN | apply Kd.S_drew)); exact HO57.out) hb)
   have n2_ := Aside0.mk (Kd.S_below (by (with_reducible repeat (first | apply Kd.S_alloc | apply Kd.S_drewN | apply Kd.S_drew)); exact HO59.out) hb)
   have n3_ := Aside0.mk (Kd.S_below (by (with_reducible repeat (first | apply Kd.S_alloc | apply Kd.S_drewN | apply Kd.S_drew)); exact HO60.out) hb)
   have n4_ := Aside0.mk (Kd.S_below (by (with_reducible repeat (first | apply Kd.S_alloc | apply Kd.S_drewN | apply Kd.S_drew)); exact HO72.out) hb)
   have n5_ := Aside0.mk (Kd.S_below (by (with_reducible repeat (first | apply Kd.S_alloc | apply Kd.S_drewN | apply Kd.S_drew)); exact HO73.out) hb)
   have n6_ := Aside0.mk (blk_below (g := gb50) (o := .cells #[.int .i64 a0_0, .int .i64 a0_1, .slice A0_2 l0_2.length c0_2, .slice A0_3 l0_3.length c0_3] 25 (0, 0)) (by apply_rules [BK50.out, blk_drewN, blk_drew, blk_alloc]) hb)
   have n7_ := Aside0.mk (blk_below (g := gb52) (o := .cells #[.int .i64 t58, .int .i64 t66] 48 (0, 0)) (by apply_rules [BK52.out, blk_drewN, blk_drew, blk_alloc]) hb)
   have n8_ := Aside0.mk (blk_below (g := gb51) (o := .cells #[.int .i64 t53, .int .i64 t62, .slice Ao35 t63.length co35, .slice Ao36 t65.length co36] 31 (0, 0)) (by apply_rules [BK51.out, blk_drewN, blk_drew, blk_alloc]) hb)
   have n9_ := Aside0.mk (blk_below (g := gb54) (o := .cells #[.int .i64 t61, .int .i64 t70] 48 (0, 0)) (by apply_rules [BK54.out, blk_drewN, blk_drew, blk_alloc]) hb)
   have n10_ := Aside0.mk (below_step (by apply_rules [HB.out, below_alloc, pw_below_drewN, below_drew1, below_set, GE50.out, GE52.out, GE51.out, GE54.out]) hb)
   clear HO56
   clear HO57
   clear HO59
   clear HO60
   clear HO72
   clear HO73
   clear BK50
   clear BK52
   clear BK51
   clear BK54
   clear HB
   have HO56 := n0_
   have HO57 := n1_
   have HO59 := n2_
   have HO60 := n3_
   have HO72 := n4_
   have HO73 := n5_
   have BK50 := n6_
   have BK52 := n7_
   have BK51 := n8_
   have BK54 := n9_
   have HB := n10_
   clear n0_ n1_ n2_ n3_ n4_ n5_ n6_ n7_ n8_ n9_ n10_
   (try clear hb)
   (try clear hb2)
   (try clear hk)
   (try clear hi)
   refine hK.out _ _ ⟨(blk_cell BK51.out 0).trans rfl, (blk_cell BK51.out 1).trans rfl, (blk_cell BK51.out 2).trans rfl, (blk_cell BK51.out 3).trans rfl, (blk_cell BK50.out 0).trans rfl, (blk_cell BK50.out 1).trans rfl, (blk_cell BK50.out 2).trans rfl, (blk_cell BK50.out 3).trans rfl⟩ (fun hHeld => ?_)
   clear hK K
   refine norm_ (a' := ?_) ?_ ?_
   rotate_left
   ·show Act.put _ (some 34) _ = _
    simp only [Act.put, List.setIfInBounds_toArray, List.set_cons_zero, List.set_cons_succ, i64_w, i32_w]
    rfl
   refine pure_ (i := 4) (N := some 35) (v := ?_) (a' := ?_) #[true, true, true, true, true] rfl rfl (by kernel_rfl) (fun _ _ _ h => h) (Or.inl ⟨by rfl, ?_⟩) ?_ ?_
   rotate_left
   ·intro w'
    go_simp
    with_reducible rfl
   rotate_left
   ·simp only [Act.put, List.setIfInBounds_toArray, List.set_cons_zero, List.set_cons_succ, i64_w, i32_w]
    rfl
   refine done_ (by kernel_rfl) ?_
   try go_wp2
   go_ret
   exact ⟨by first | rfl | (simp [errW_none, errW_some] <;> rfl) | (simp [*, errW_none, errW_some] <;> rfl), by apply_rules [HB.out, below_alloc, pw_below_drewN, below_drew1, below_set, GE50.out, GE52.out, GE51.out, GE54.out]⟩
  replace c17 := Bool.eq_false_iff.mpr c17
  subst c17
  have H1 : (some false) = some true := by rw [if_neg (show ¬ (false = true) by decide)] at H; first | done | exact H
  clear H
  have H := H1
  clear H1
  exact absurd H (by simp)
 replace c14 := Bool.eq_false_iff.mpr c14
 subst c14
 have H1 : (some false) = some true := by rw [if_neg (show ¬ (false = true) by decide)] at H; first | done | exact H
 clear H
 have H := H1
 clear H1
 exact absurd H (by simp)
end Go.Proofs.Ytonbnmaelepcbaa.P
