import Derived.Test.YthagppmaofcllaaP0
import Derived.Test.YthagppmaofcllaaPCaefgh0
import Derived.Test.YthagppmaofcllaaPCefg0
import Derived.Test.YthagppmaofcllaaPCeg0
import Derived.Test.YthagppmaofcllaaPDm0
import Derived.Test.YthagppmaofcllaaPDm1
import Derived.Test.YthagppmaofcllaaWRepsOne
import Derived.Test.YthagppmaofcllaaLv
import Derived.Test.YthagppmaofcllaaLv
namespace Go.Proofs.Ythagppmaofcllaa.P
open Go.RowKit Go.Proofs.YthagppmaofcllaaW.PrintWords Go.Proofs.YthagppmaofcllaaW.PrintLast Go.Proofs.YthagppmaofcllaaW.PrintMore
attribute [local go_sem] max2_int min2_int max_two min_two max_three min_three max_four min_four   -- for this text's walks alone
set_option linter.unusedVariables false
set_option linter.unusedSimpArgs false
set_option maxHeartbeats 8000000 in
set_option maxRecDepth 100000 in
theorem ZsFlushLog.calls (k : Nat) (A0_0 : Option Addr) (c0_0 : Nat) (l0_0 : List Int) (A0_1 : Option Addr) (c0_1 : Nat) (l0_1 : List Int) (r1 : Int) (r2 : Int) (r3 : List Int) (r4 : List Int) (w : World) (hr0_0 : Kd.C (Kd.int .u8) w A0_0 l0_0.length l0_0) (hc0_0 : l0_0.length ≤ c0_0) (hr0_1 : Kd.C (Kd.int .u8) w A0_1 l0_1.length l0_1) (hc0_1 : l0_1.length ≤ c0_1) (h : ZsFlushLog.f k l0_0 l0_1 = some (r1, r2, r3, r4)) :
 Calls Try.prog 36 #[.agg #[.slice A0_0 l0_0.length c0_0, .slice A0_1 l0_1.length c0_1]] w fun e w' => ∃ v2_ v3_ : Value, e = .returned (.agg #[.int .i64 r1, .int .i64 r2, v2_, v3_]) ∧ Kd.R (Kd.int .u8) 5 w' w.heap.size (fun k_ => some k_ ≠ (v3_ : Value).ownBlock) v2_ r3 ∧ Kd.R (Kd.int .u8) 5 w' w.heap.size (fun k_ => some k_ ≠ (v2_ : Value).ownBlock) v3_ r4 ∧ Below w.heap.size w w' := by
 have hu27 := Try.underlying27
 have hu59 := Try.underlying59
 have HR0_0 := Qz.mk hr0_0
 have HC0_0 := Qz.mk hc0_0
 clear hr0_0 hc0_0
 have HR0_1 := Qz.mk hr0_1
 have HC0_1 := Qz.mk hc0_1
 clear hr0_1 hc0_1
 have HB := Qz.mk (Below.refl w.heap.size w)
 have H : ((ZsLogFault.f k l0_0 l0_1).bind fun t29 => (if t29 = 0 then ((Zsl3Count.f l0_0 l0_1).bind fun t31 => ((Zsl3Flush.f l0_0 l0_1).bind fun bt30 => (some (0, t31, bt30.1, bt30.2)))) else (some (t29, 0, ([] : List Int), ([] : List Int))))) = some (r1, r2, r3, r4) := h
 clear h
 replace H := Qj9 H
 obtain ⟨t29, A20, H⟩ := H
 replace H : (if t29 = 0 then ((Zsl3Count.f l0_0 l0_1).bind fun t31 => ((Zsl3Flush.f l0_0 l0_1).bind fun bt30 => (some (0, t31, bt30.1, bt30.2)))) else (some (t29, 0, ([] : List Int), ([] : List Int)))) = some (r1, r2, r3, r4) := H
 have A2 := Qz.mk A20
 clear A20
 by_cases c3 : t29 = 0
 ·rw [if_pos c3] at H
  have c3b0 : (t29 == 0) = true := beq_iff_eq.mpr c3
  have c3b1 : (t29 != 0) = false := bne_eq_false_iff_eq.mpr c3
  clear c3
  replace H := Qj9 H
  obtain ⟨t31, A40, H⟩ := H
  replace H : ((Zsl3Flush.f l0_0 l0_1).bind fun bt30 => (some (0, t31, bt30.1, bt30.2))) = some (r1, r2, r3, r4) := H
  have A4 := Qz.mk A40
  clear A40
  replace H := Qj9 H
  obtain ⟨⟨t30, t33⟩, A50, H⟩ := H
  replace H : (some (0, t31, t30, t33)) = some (r1, r2, r3, r4) := H
  have A5 := Qz.mk A50
  clear A50
  simp only [Option.some.injEq, Prod.mk.injEq] at H
  obtain ⟨rfl, rfl, rfl, rfl⟩ := H
  go_enter Try.func36, Try.ntmps36
  try go_wp2_with (first | ((with_reducible refine gate_dst (N := 1) rfl ?_); refine box_event ?hg (N := 1) ?hd (cs := #[.slice A0_0 l0_0.length c0_0, .slice A0_1 l0_1.length c0_1]) (t := 27) ?hr ?_; (case hd => rfl); (case hg => rfl); (case hr => first | (go_simp; done) | (go_simp; rfl)); intro gb28 hg w6 hbox hb; have n0_ := Qz.mk (Qq (by apply_rules [HB.out, Qc, Qa, Qb]) hb); have n1_ := Qz.mk (hbox); have n2_ := Qz.mk ((by rw [hg]; exact (Qp (by apply_rules [HB.out, Qc, Qa, Qb])) : w.heap.size ≤ gb28)); have n3_ := n2_; clear HB; have HB := n0_; have BK28 := n1_; have GW28 := n2_; have GE28 := n3_; clear n0_ n1_ n2_ n3_; clear hb hbox hg) | ((with_reducible refine gate_dst (N := 2) rfl ?_); refine box_event ?hg (N := 2) ?hd (cs := #[.int .i64 0, .int .i64 0, .slice none 0 0, .slice none 0 0]) (t := 59) ?hr ?_; (case hd => rfl); (case hg => rfl); (case hr => first | (go_simp; done) | (go_simp; rfl)); intro gb26 hg w7 hbox hb; have n0_ := Qz.mk (Qi (g := gb28) (o := .cells #[.slice A0_0 l0_0.length c0_0, .slice A0_1 l0_1.length c0_1] 27 (0, 0)) (by apply_rules [BK28.out, Qe, Qg, Qf]) hb); have n1_ := Qz.mk (Qq (by apply_rules [HB.out, Qc, Qa, Qb, Qd, GE28.out]) hb); have n2_ := Qz.mk (hbox); have n3_ := Qz.mk ((by rw [hg]; exact (Qp (by apply_rules [HB.out, Qc, Qa, Qb, Qd, GE28.out])) : w.heap.size ≤ gb26)); have n4_ := n3_; have n5_ := Qz.mk ((by rw [hg]; exact Nat.ne_of_lt (Ql (g := gb28) (o := .cells #[.slice A0_0 l0_0.length c0_0, .slice A0_1 l0_1.length c0_1] 27 (0, 0)) (by apply_rules [BK28.out, Qe, Qg, Qf])) : gb28 ≠ gb26)); have n6_ := Qz.mk ((by rw [hg]; exact Nat.ne_of_gt (Ql (g := gb28) (o := .cells #[.slice A0_0 l0_0.length c0_0, .slice A0_1 l0_1.length c0_1] 27 (0, 0)) (by apply_rules [BK28.out, Qe, Qg, Qf])) : gb26 ≠ gb28)); clear BK28; clear HB; have BK28 := n0_; have HB := n1_; have BK26 := n2_; have GW26 := n3_; have GE26 := n4_; have NB755_756 := n5_; have NB756_755 := n6_; clear n0_ n1_ n2_ n3_ n4_ n5_ n6_; clear hb hbox hg; have hnb8 := NB755_756.out; have hnc8 := NB756_755.out; obtain ⟨z9_0, z9_1, j9_0, j9_1⟩ := Lv.blks2 BK28.out) | ((with_reducible refine gate_callee (f := 12) rfl ?_); refine Qat (some 5) rfl rfl Try.func12 (by kernel_rfl) rfl #[.agg #[.slice A0_0 l0_0.length c0_0, .slice A0_1 l0_1.length c0_1]] rfl (by (try simp only [Qj4, Qj5, Qj6]); first | done | rfl | (simp only [Qj7, Qj8]; rfl)) ?_; (with_reducible refine (ZsLogFault.calls k _ _ l0_0 _ _ l0_1 t29 _ ?side1 ?side2 ?side3 ?side4 A2.out).mono ?_); (case side1 => repeat (first | exact (Kd.Qac HR0_0.out HB.out) | (with_reducible first | refine Kd.Qaa ?_ _ | refine Kd.Qz ?_ _ | refine Kd.Qab ?_))); (case side2 => exact HC0_0.out); (case side3 => repeat (first | exact (Kd.Qac HR0_1.out HB.out) | (with_reducible first | refine Kd.Qaa ?_ _ | refine Kd.Qz ?_ _ | refine Kd.Qab ?_))); (case side4 => exact HC0_1.out); rintro e w10 ⟨rfl, hb⟩; refine ⟨_, rfl, ?_⟩; have n0_ := Qz.mk (Qi (g := gb28) (o := .cells #[.slice A0_0 l0_0.length c0_0, .slice A0_1 l0_1.length c0_1] 27 (0, 0)) (by apply_rules [BK28.out, Qe, Qg, Qf]) hb); have n1_ := Qz.mk (Qi (g := gb26) (o := .cells #[.int .i64 0, .int .i64 0, .slice none 0 0, .slice none 0 0] 59 (0, 0)) (by apply_rules [BK26.out, Qe, Qg, Qf]) hb); have n2_ := Qz.mk (Qq (by apply_rules [HB.out, Qc, Qa, Qb, Qd, GE28.out, GE26.out]) hb); clear BK28; clear BK26; clear HB; have BK28 := n0_; have BK26 := n1_; have HB := n2_; clear n0_ n1_ n2_; (try clear hb); (try clear hb2); (try clear hk); (try clear hi)))
  have n0_ := Qz.mk (Qg BK28.out)
  have n1_ := Qz.mk (Qg BK26.out)
  have n2_ := Qz.mk (Qb HB.out)
  clear BK28
  clear BK26
  clear HB
  have BK28 := n0_
  have BK26 := n1_
  have HB := n2_
  clear n0_ n1_ n2_
  refine start_ (n := 6) (S := fun w' => w'.cell? ⟨gb28, 0, none⟩ = some (.slice A0_0 l0_0.length c0_0) ∧ w'.cell? ⟨gb28, 1, none⟩ = some (.slice A0_1 l0_1.length c0_1)) (ds := []) #[Z, Z, Z, Z, Z, Z] (by kernel_rfl) rfl rfl ⟨(Qh BK28.out 0).trans rfl, (Qh BK28.out 1).trans rfl⟩ (fun hHeld => ?_)
  generalize w10.drew = w11 at BK28 BK26 HB hHeld ⊢
  refine take_ (i := 0) (N := some 10) (v := ?_) (a' := ?_) #[Y, Z, Z, Z, Z, Z] rfl rfl (by kernel_rfl) (fun _ _ _ h => h) (Or.inl ⟨by rfl, ?_⟩) hHeld ?_ ?_
  rotate_left
  ·rintro w' ⟨s0, s1⟩
   go_simp
   with_reducible rfl
  rotate_left
  ·simp only [Act.put, Qj1, Qj2, Qj3, Qar, Qas]
   rfl
  refine take_ (i := 2) (N := some 12) (v := ?_) (a' := ?_) #[Y, Z, Y, Z, Z, Z] rfl rfl (by kernel_rfl) (fun _ _ _ h => h) (Or.inl ⟨by rfl, ?_⟩) hHeld ?_ ?_
  rotate_left
  ·rintro w' ⟨s0, s1⟩
   go_simp
   with_reducible rfl
  rotate_left
  ·simp only [Act.put, Qj1, Qj2, Qj3, Qar, Qas]
   rfl
  refine one_ (i := 1) (N := some 11) #[Y, Y, Y, Z, Z, Z] rfl rfl (by kernel_rfl) (by decide) (fun K hK => ?_)
  refine goes_ Try.func70 (by kernel_rfl) rfl #[.agg #[.slice A0_0 l0_0.length c0_0, .slice A0_1 l0_1.length c0_1]] (by rfl) rfl rfl (by (try simp only [Qj4, Qj5, Qj6]); first | done | rfl | (simp only [Qj7, Qj8]; rfl)) ?_
  with_reducible refine (Zsl3Count.calls _ _ l0_0 _ _ l0_1 t31 _ ?side1 ?side2 ?side3 ?side4 A4.out).mono ?_
  (case side1 => repeat (first | exact (Kd.Qac HR0_0.out HB.out) | (with_reducible first | refine Kd.Qaa ?_ _ | refine Kd.Qz ?_ _ | refine Kd.Qab ?_)))
  (case side2 => exact HC0_0.out)
  (case side3 => repeat (first | exact (Kd.Qac HR0_1.out HB.out) | (with_reducible first | refine Kd.Qaa ?_ _ | refine Kd.Qz ?_ _ | refine Kd.Qab ?_)))
  (case side4 => exact HC0_1.out)
  rintro e w12 ⟨rfl, hb⟩
  refine ⟨_, rfl, ?_⟩
  have n0_ := Qz.mk (Qi (g := gb28) (o := .cells #[.slice A0_0 l0_0.length c0_0, .slice A0_1 l0_1.length c0_1] 27 (0, 0)) (by apply_rules [BK28.out, Qe, Qg, Qf]) hb)
  have n1_ := Qz.mk (Qi (g := gb26) (o := .cells #[.int .i64 0, .int .i64 0, .slice none 0 0, .slice none 0 0] 59 (0, 0)) (by apply_rules [BK26.out, Qe, Qg, Qf]) hb)
  have n2_ := Qz.mk (Qq (by apply_rules [HB.out, Qc, Qa, Qb, Qd, GE28.out, GE26.out]) hb)
  clear BK28
  clear BK26
  clear HB
  have BK28 := n0_
  have BK26 := n1_
  have HB := n2_
  clear n0_ n1_ n2_
  (try clear hb)
  (try clear hb2)
  (try clear hk)
  (try clear hi)
  refine hK.out _ _ ⟨(Qh BK28.out 0).trans rfl, (Qh BK28.out 1).trans rfl⟩ (fun hHeld => ?_)
  clear hK K
  refine norm_ (a' := ?_) ?_ ?_
  rotate_left
  ·show Act.put _ (some 11) _ = _
   simp only [Act.put, Qj1, Qj2, Qj3, Qar, Qas]
   rfl
  refine one_ (i := 3) (N := some 13) #[Y, Y, Y, Y, Z, Z] rfl rfl (by kernel_rfl) (by decide) (fun K hK => ?_)
  refine goes_ Try.func71 (by kernel_rfl) rfl #[.agg #[.slice A0_0 l0_0.length c0_0, .slice A0_1 l0_1.length c0_1]] (by rfl) rfl rfl (by (try simp only [Qj4, Qj5, Qj6]); first | done | rfl | (simp only [Qj7, Qj8]; rfl)) ?_
  with_reducible refine (Zsl3Flush.calls _ _ l0_0 _ _ l0_1 t30 t33 _ ?side1 ?side2 ?side3 ?side4 A5.out).mono ?_
  (case side1 => repeat (first | exact (Kd.Qac HR0_0.out HB.out) | (with_reducible first | refine Kd.Qaa ?_ _ | refine Kd.Qz ?_ _ | refine Kd.Qab ?_)))
  (case side2 => exact HC0_0.out)
  (case side3 => repeat (first | exact (Kd.Qac HR0_1.out HB.out) | (with_reducible first | refine Kd.Qaa ?_ _ | refine Kd.Qz ?_ _ | refine Kd.Qab ?_)))
  (case side4 => exact HC0_1.out)
  rintro e w13 ⟨v37, v38, rfl, ho0, ho1, hb⟩
  refine ⟨_, rfl, ?_⟩
  have n0_ := Qz.mk (Kd.Qan ho0 (Qp (by apply_rules [HB.out, Qc, Qa, Qb, Qd, GE28.out, GE26.out])))
  have n1_ := Qz.mk (Kd.Qan ho1 (Qp (by apply_rules [HB.out, Qc, Qa, Qb, Qd, GE28.out, GE26.out])))
  have n2_ := Qz.mk (Qi (g := gb28) (o := .cells #[.slice A0_0 l0_0.length c0_0, .slice A0_1 l0_1.length c0_1] 27 (0, 0)) (by apply_rules [BK28.out, Qe, Qg, Qf]) hb)
  have n3_ := Qz.mk (Qi (g := gb26) (o := .cells #[.int .i64 0, .int .i64 0, .slice none 0 0, .slice none 0 0] 59 (0, 0)) (by apply_rules [BK26.out, Qe, Qg, Qf]) hb)
  have n4_ := Qz.mk (Qq (by apply_rules [HB.out, Qc, Qa, Qb, Qd, GE28.out, GE26.out]) hb)
  clear BK28
  clear BK26
  clear HB
  have HO34 := n0_
  have HO35 := n1_
  have BK28 := n2_
  have BK26 := n3_
  have HB := n4_
  clear n0_ n1_ n2_ n3_ n4_
  (try clear hb)
  (try clear hb2)
  (try clear hk)
  (try clear hi)
  (try clear ho0)
  (try clear ho1)
  obtain ⟨Ao14, co14, eo14⟩ := Kd.R_slice HO35.out
  (first | subst eo14 | (injection eo14 with f1_ f2_ f3_; have f4_ := f1_.symm; have f5_ := f3_.symm; clear f1_ f2_ f3_; subst f4_; subst f5_))
  obtain ⟨Ao15, co15, eo15⟩ := Kd.R_slice HO34.out
  (first | subst eo15 | (injection eo15 with f1_ f2_ f3_; have f4_ := f1_.symm; have f5_ := f3_.symm; clear f1_ f2_ f3_; subst f4_; subst f5_))
  refine hK.out _ _ ⟨(Qh BK28.out 0).trans rfl, (Qh BK28.out 1).trans rfl⟩ (fun hHeld => ?_)
  clear hK K
  refine norm_ (a' := ?_) ?_ ?_
  rotate_left
  ·show Act.put _ (some 13) _ = _
   simp only [Act.put, Qj1, Qj2, Qj3, Qar, Qas]
   rfl
  refine pure_ (i := 4) (N := some 14) (v := ?_) (a' := ?_) #[Y, Y, Y, Y, Y, Z] rfl rfl (by kernel_rfl) (fun _ _ _ h => h) (Or.inl ⟨by rfl, ?_⟩) ?_ ?_
  rotate_left
  ·intro w'
   go_simp
   with_reducible rfl
  rotate_left
  ·simp only [Act.put, Qj1, Qj2, Qj3, Qar, Qas]
   rfl
  refine one_ (i := 5) (N := none) #[Y, Y, Y, Y, Y, Y] rfl rfl (by kernel_rfl) (by decide) (fun K hK => ?_)
  have hs16 : w13.cell? ⟨gb26, 0, none⟩ = some (.int .i64 0) := (Qh BK26.out 0).trans rfl
  have hfs16 := Qj BK26.out 0
  have hns16_0 := NB755_756.out
  have hms16_0 := NB756_755.out
  have hs17 : w13.cell? ⟨gb26, 1, none⟩ = some (.int .i64 0) := (Qh BK26.out 1).trans rfl
  have hfs17 := Qj BK26.out 1
  have hns17_0 := NB755_756.out
  have hms17_0 := NB756_755.out
  have hs18 : w13.cell? ⟨gb26, 2, none⟩ = some (.slice none 0 0) := (Qh BK26.out 2).trans rfl
  have hfs18 := Qj BK26.out 2
  have hns18_0 := NB755_756.out
  have hms18_0 := NB756_755.out
  have hs19 : w13.cell? ⟨gb26, 3, none⟩ = some (.slice none 0 0) := (Qh BK26.out 3).trans rfl
  have hfs19 := Qj BK26.out 3
  have hns19_0 := NB755_756.out
  have hms19_0 := NB756_755.out
  refine skip_ (w1 := ?_) (by rfl) rfl ?_ ?_
  rotate_left
  ·go_simp
   rfl
  refine hK.out _ _ ⟨((Qaq (p := ⟨gb26, _, none⟩) NB755_756.out _).trans (((Qaq (p := ⟨gb26, _, none⟩) NB755_756.out _).trans (((Qaq (p := ⟨gb26, _, none⟩) NB755_756.out _).trans (((Qaq (p := ⟨gb26, _, none⟩) NB755_756.out _).trans (hHeld.1)))))))), ((Qaq (p := ⟨gb26, _, none⟩) NB755_756.out _).trans (((Qaq (p := ⟨gb26, _, none⟩) NB755_756.out _).trans (((Qaq (p := ⟨gb26, _, none⟩) NB755_756.out _).trans (((Qaq (p := ⟨gb26, _, none⟩) NB755_756.out _).trans (hHeld.2))))))))⟩ (fun hHeld => ?_)
  clear hK K
  refine done_ (by kernel_rfl) ?_
  try go_wp2
  refine bodyPost_ret (results_cell_row rfl _ _ gb26 59 #[.int .i64 0, .int .i64 t31, .slice Ao15 t30.length co15, .slice Ao14 t33.length co14] (0, 0) _ rfl (by (with_reducible repeat (first | refine Qe ?_ _ | refine Qg ?_ | refine Qf ?_ _)); refine Qk (cs := #[.int .i64 0, .int .i64 t31, .slice Ao15 t30.length co15, .slice none 0 0]) ?_ 3 _ rfl; (with_reducible repeat (first | refine Qe ?_ _ | refine Qg ?_ | refine Qf ?_ _)); refine Qk (cs := #[.int .i64 0, .int .i64 t31, .slice none 0 0, .slice none 0 0]) ?_ 2 _ rfl; (with_reducible repeat (first | refine Qe ?_ _ | refine Qg ?_ | refine Qf ?_ _)); refine Qk (cs := #[.int .i64 0, .int .i64 0, .slice none 0 0, .slice none 0 0]) ?_ 1 _ rfl; (with_reducible repeat (first | refine Qe ?_ _ | refine Qg ?_ | refine Qf ?_ _)); refine Qk (cs := #[.int .i64 0, .int .i64 0, .slice none 0 0, .slice none 0 0]) ?_ 0 _ rfl; apply_rules [BK26.out, Qe, Qg, Qf]) Try.underlying59 rfl (by kernel_rfl)) rfl ?_
  exact ⟨_, _, by first | rfl | (simp [Qv, Qu] <;> rfl) | (simp [*, Qv, Qu] <;> rfl), by (with_reducible repeat (first | apply Kd.Qn | apply Kd.Qm | apply Kd.Qo)); exact Kd.Qw (Kd.Qx (p := ⟨gb26, 3, none⟩) (Kd.Qx (p := ⟨gb26, 2, none⟩) (Kd.Qx (p := ⟨gb26, 1, none⟩) (Kd.Qx (p := ⟨gb26, 0, none⟩) (Kd.Qai HO34.out BK26.out (by decide)) (fun _ hk => hk.2) (.int .i64 0)) (fun _ hk => hk.2) (.int .i64 t31)) (fun _ hk => hk.2) (.slice Ao15 t30.length co15)) (fun _ hk => hk.2) (.slice Ao14 t33.length co14)) (fun _ hk => hk.1), by (with_reducible repeat (first | apply Kd.Qn | apply Kd.Qm | apply Kd.Qo)); exact Kd.Qw (Kd.Qx (p := ⟨gb26, 3, none⟩) (Kd.Qx (p := ⟨gb26, 2, none⟩) (Kd.Qx (p := ⟨gb26, 1, none⟩) (Kd.Qx (p := ⟨gb26, 0, none⟩) (Kd.Qai HO35.out BK26.out (by decide)) (fun _ hk => hk.2) (.int .i64 0)) (fun _ hk => hk.2) (.int .i64 t31)) (fun _ hk => hk.2) (.slice Ao15 t30.length co15)) (fun _ hk => hk.2) (.slice Ao14 t33.length co14)) (fun _ hk => hk.1), by apply_rules [HB.out, Qc, Qa, Qb, Qd, GE28.out, GE26.out]⟩
 rw [if_neg c3] at H
 have c3b0 : (t29 == 0) = false := beq_eq_false_iff_ne.mpr c3
 have c3b1 : (t29 != 0) = true := bne_iff_ne.mpr c3
 simp only [Option.some.injEq, Prod.mk.injEq] at H
 obtain ⟨rfl, rfl, rfl, rfl⟩ := H
 go_enter Try.func36, Try.ntmps36
 go_wp2_with (first | ((with_reducible refine gate_dst (N := 1) rfl ?_); refine box_event ?hg (N := 1) ?hd (cs := #[.slice A0_0 l0_0.length c0_0, .slice A0_1 l0_1.length c0_1]) (t := 27) ?hr ?_; (case hd => rfl); (case hg => rfl); (case hr => first | (go_simp; done) | (go_simp; rfl)); intro gb28 hg w20 hbox hb; have n0_ := Qz.mk (Qq (by apply_rules [HB.out, Qc, Qa, Qb]) hb); have n1_ := Qz.mk (hbox); have n2_ := Qz.mk ((by rw [hg]; exact (Qp (by apply_rules [HB.out, Qc, Qa, Qb])) : w.heap.size ≤ gb28)); have n3_ := n2_; clear HB; have HB := n0_; have BK28 := n1_; have GW28 := n2_; have GE28 := n3_; clear n0_ n1_ n2_ n3_; clear hb hbox hg) | ((with_reducible refine gate_dst (N := 2) rfl ?_); refine box_event ?hg (N := 2) ?hd (cs := #[.int .i64 0, .int .i64 0, .slice none 0 0, .slice none 0 0]) (t := 59) ?hr ?_; (case hd => rfl); (case hg => rfl); (case hr => first | (go_simp; done) | (go_simp; rfl)); intro gb26 hg w21 hbox hb; have n0_ := Qz.mk (Qi (g := gb28) (o := .cells #[.slice A0_0 l0_0.length c0_0, .slice A0_1 l0_1.length c0_1] 27 (0, 0)) (by apply_rules [BK28.out, Qe, Qg, Qf]) hb); have n1_ := Qz.mk (Qq (by apply_rules [HB.out, Qc, Qa, Qb, Qd, GE28.out]) hb); have n2_ := Qz.mk (hbox); have n3_ := Qz.mk ((by rw [hg]; exact (Qp (by apply_rules [HB.out, Qc, Qa, Qb, Qd, GE28.out])) : w.heap.size ≤ gb26)); have n4_ := n3_; have n5_ := Qz.mk ((by rw [hg]; exact Nat.ne_of_lt (Ql (g := gb28) (o := .cells #[.slice A0_0 l0_0.length c0_0, .slice A0_1 l0_1.length c0_1] 27 (0, 0)) (by apply_rules [BK28.out, Qe, Qg, Qf])) : gb28 ≠ gb26)); have n6_ := Qz.mk ((by rw [hg]; exact Nat.ne_of_gt (Ql (g := gb28) (o := .cells #[.slice A0_0 l0_0.length c0_0, .slice A0_1 l0_1.length c0_1] 27 (0, 0)) (by apply_rules [BK28.out, Qe, Qg, Qf])) : gb26 ≠ gb28)); clear BK28; clear HB; have BK28 := n0_; have HB := n1_; have BK26 := n2_; have GW26 := n3_; have GE26 := n4_; have NB755_756 := n5_; have NB756_755 := n6_; clear n0_ n1_ n2_ n3_ n4_ n5_ n6_; clear hb hbox hg; have hnb22 := NB755_756.out; have hnc22 := NB756_755.out; obtain ⟨z23_0, z23_1, j23_0, j23_1⟩ := Lv.blks2 BK28.out) | ((with_reducible refine gate_callee (f := 12) rfl ?_); refine Qat (some 5) rfl rfl Try.func12 (by kernel_rfl) rfl #[.agg #[.slice A0_0 l0_0.length c0_0, .slice A0_1 l0_1.length c0_1]] rfl (by (try simp only [Qj4, Qj5, Qj6]); first | done | rfl | (simp only [Qj7, Qj8]; rfl)) ?_; (with_reducible refine (ZsLogFault.calls k _ _ l0_0 _ _ l0_1 t29 _ ?side1 ?side2 ?side3 ?side4 A2.out).mono ?_); (case side1 => repeat (first | exact (Kd.Qac HR0_0.out HB.out) | (with_reducible first | refine Kd.Qaa ?_ _ | refine Kd.Qz ?_ _ | refine Kd.Qab ?_))); (case side2 => exact HC0_0.out); (case side3 => repeat (first | exact (Kd.Qac HR0_1.out HB.out) | (with_reducible first | refine Kd.Qaa ?_ _ | refine Kd.Qz ?_ _ | refine Kd.Qab ?_))); (case side4 => exact HC0_1.out); rintro e w24 ⟨rfl, hb⟩; refine ⟨_, rfl, ?_⟩; have n0_ := Qz.mk (Qi (g := gb28) (o := .cells #[.slice A0_0 l0_0.length c0_0, .slice A0_1 l0_1.length c0_1] 27 (0, 0)) (by apply_rules [BK28.out, Qe, Qg, Qf]) hb); have n1_ := Qz.mk (Qi (g := gb26) (o := .cells #[.int .i64 0, .int .i64 0, .slice none 0 0, .slice none 0 0] 59 (0, 0)) (by apply_rules [BK26.out, Qe, Qg, Qf]) hb); have n2_ := Qz.mk (Qq (by apply_rules [HB.out, Qc, Qa, Qb, Qd, GE28.out, GE26.out]) hb); clear BK28; clear BK26; clear HB; have BK28 := n0_; have BK26 := n1_; have HB := n2_; clear n0_ n1_ n2_; (try clear hb); (try clear hb2); (try clear hk); (try clear hi); obtain ⟨z25_0, z25_1, z25_2, z25_3, j25_0, j25_1, j25_2, j25_3⟩ := Lv.blks4 BK26.out))
 refine bodyPost_ret (results_cell_row rfl _ _ gb26 59 #[.int .i64 t29, .int .i64 0, .slice none 0 0, .slice none 0 0] (0, 0) _ rfl (by (with_reducible repeat (first | refine Qe ?_ _ | refine Qg ?_ | refine Qf ?_ _)); refine Qk (cs := #[.int .i64 t29, .int .i64 0, .slice none 0 0, .slice none 0 0]) ?_ 3 _ rfl; (with_reducible repeat (first | refine Qe ?_ _ | refine Qg ?_ | refine Qf ?_ _)); refine Qk (cs := #[.int .i64 t29, .int .i64 0, .slice none 0 0, .slice none 0 0]) ?_ 2 _ rfl; (with_reducible repeat (first | refine Qe ?_ _ | refine Qg ?_ | refine Qf ?_ _)); refine Qk (cs := #[.int .i64 t29, .int .i64 0, .slice none 0 0, .slice none 0 0]) ?_ 1 _ rfl; (with_reducible repeat (first | refine Qe ?_ _ | refine Qg ?_ | refine Qf ?_ _)); refine Qk (cs := #[.int .i64 0, .int .i64 0, .slice none 0 0, .slice none 0 0]) ?_ 0 _ rfl; apply_rules [BK26.out, Qe, Qg, Qf]) Try.underlying59 rfl (by kernel_rfl)) rfl ?_
 exact ⟨_, _, by first | rfl | (simp [Qv, Qu] <;> rfl) | (simp [*, Qv, Qu] <;> rfl), by first | exact Kd.R_nil _ _ _ _ _ | exact Kd.N_nil _ _ _ _ _ | exact Kd.V_nil _ _ _ _ _ | exact Kd.Q_nil _ _ _ _ _ | exact Kd.S_nil _ _ _ _ _, by first | exact Kd.R_nil _ _ _ _ _ | exact Kd.N_nil _ _ _ _ _ | exact Kd.V_nil _ _ _ _ _ | exact Kd.Q_nil _ _ _ _ _ | exact Kd.S_nil _ _ _ _ _, by apply_rules [HB.out, Qc, Qa, Qb, Qd, GE28.out, GE26.out]⟩
set_option maxHeartbeats 8000000 in
set_option maxRecDepth 100000 in
theorem ZiFlushLog.calls (k : Nat) (A0_0 : Option Addr) (c0_0 : Nat) (l0_0 : List Int) (A0_1 : Option Addr) (c0_1 : Nat) (l0_1 : List Int) (r1 : Int) (r2 : Int) (r3 : List Int) (r4 : List Int) (w : World) (hr0_0 : Kd.C (Kd.int .u8) w A0_0 l0_0.length l0_0) (hc0_0 : l0_0.length ≤ c0_0) (hr0_1 : Kd.C (Kd.int .u8) w A0_1 l0_1.length l0_1) (hc0_1 : l0_1.length ≤ c0_1) (h : ZiFlushLog.f k l0_0 l0_1 = some (r1, r2, r3, r4)) :
 Calls Try.prog 37 #[.agg #[.slice A0_0 l0_0.length c0_0, .slice A0_1 l0_1.length c0_1]] w fun e w' => ∃ v2_ v3_ : Value, e = .returned (.agg #[.int .i64 r1, .int .i64 r2, v2_, v3_]) ∧ Kd.R (Kd.int .u8) 5 w' w.heap.size (fun k_ => some k_ ≠ (v3_ : Value).ownBlock) v2_ r3 ∧ Kd.R (Kd.int .u8) 5 w' w.heap.size (fun k_ => some k_ ≠ (v2_ : Value).ownBlock) v3_ r4 ∧ Below w.heap.size w w' := by
 have hu27 := Try.underlying27
 have hu59 := Try.underlying59
 have HR0_0 := Qz.mk hr0_0
 have HC0_0 := Qz.mk hc0_0
 clear hr0_0 hc0_0
 have HR0_1 := Qz.mk hr0_1
 have HC0_1 := Qz.mk hc0_1
 clear hr0_1 hc0_1
 have HB := Qz.mk (Below.refl w.heap.size w)
 have H : ((ZiLogFault.f k l0_0 l0_1).bind fun t28 => (if t28 = 0 then ((ZiLog_count.f l0_0 l0_1).bind fun t29 => ((ZiLog_all.f k l0_0 l0_1).bind fun t30 => (some (0, t29, t30, ([] : List Int))))) else (some (t28, 0, ([] : List Int), ([] : List Int))))) = some (r1, r2, r3, r4) := h
 clear h
 replace H := Qj9 H
 obtain ⟨t28, A20, H⟩ := H
 replace H : (if t28 = 0 then ((ZiLog_count.f l0_0 l0_1).bind fun t29 => ((ZiLog_all.f k l0_0 l0_1).bind fun t30 => (some (0, t29, t30, ([] : List Int))))) else (some (t28, 0, ([] : List Int), ([] : List Int)))) = some (r1, r2, r3, r4) := H
 have A2 := Qz.mk A20
 clear A20
 by_cases c3 : t28 = 0
 ·rw [if_pos c3] at H
  have c3b0 : (t28 == 0) = true := beq_iff_eq.mpr c3
  have c3b1 : (t28 != 0) = false := bne_eq_false_iff_eq.mpr c3
  clear c3
  replace H := Qj9 H
  obtain ⟨t29, A40, H⟩ := H
  replace H : ((ZiLog_all.f k l0_0 l0_1).bind fun t30 => (some (0, t29, t30, ([] : List Int)))) = some (r1, r2, r3, r4) := H
  have A4 := Qz.mk A40
  clear A40
  replace H := Qj9 H
  obtain ⟨t30, A50, H⟩ := H
  replace H : (some (0, t29, t30, ([] : List Int))) = some (r1, r2, r3, r4) := H
  have A5 := Qz.mk A50
  clear A50
  simp only [Option.some.injEq, Prod.mk.injEq] at H
  obtain ⟨rfl, rfl, rfl, rfl⟩ := H
  go_enter Try.func37, Try.ntmps37
  try go_wp2_with (first | ((with_reducible refine gate_dst (N := 1) rfl ?_); refine box_event ?hg (N := 1) ?hd (cs := #[.slice A0_0 l0_0.length c0_0, .slice A0_1 l0_1.length c0_1]) (t := 27) ?hr ?_; (case hd => rfl); (case hg => rfl); (case hr => first | (go_simp; done) | (go_simp; rfl)); intro gb25 hg w6 hbox hb; have n0_ := Qz.mk (Qq (by apply_rules [HB.out, Qc, Qa, Qb]) hb); have n1_ := Qz.mk (hbox); have n2_ := Qz.mk ((by rw [hg]; exact (Qp (by apply_rules [HB.out, Qc, Qa, Qb])) : w.heap.size ≤ gb25)); have n3_ := n2_; clear HB; have HB := n0_; have BK25 := n1_; have GW25 := n2_; have GE25 := n3_; clear n0_ n1_ n2_ n3_; clear hb hbox hg) | ((with_reducible refine gate_dst (N := 2) rfl ?_); refine box_event ?hg (N := 2) ?hd (cs := #[.int .i64 0, .int .i64 0, .slice none 0 0, .slice none 0 0]) (t := 59) ?hr ?_; (case hd => rfl); (case hg => rfl); (case hr => first | (go_simp; done) | (go_simp; rfl)); intro gb26 hg w7 hbox hb; have n0_ := Qz.mk (Qi (g := gb25) (o := .cells #[.slice A0_0 l0_0.length c0_0, .slice A0_1 l0_1.length c0_1] 27 (0, 0)) (by apply_rules [BK25.out, Qe, Qg, Qf]) hb); have n1_ := Qz.mk (Qq (by apply_rules [HB.out, Qc, Qa, Qb, Qd, GE25.out]) hb); have n2_ := Qz.mk (hbox); have n3_ := Qz.mk ((by rw [hg]; exact (Qp (by apply_rules [HB.out, Qc, Qa, Qb, Qd, GE25.out])) : w.heap.size ≤ gb26)); have n4_ := n3_; have n5_ := Qz.mk ((by rw [hg]; exact Nat.ne_of_lt (Ql (g := gb25) (o := .cells #[.slice A0_0 l0_0.length c0_0, .slice A0_1 l0_1.length c0_1] 27 (0, 0)) (by apply_rules [BK25.out, Qe, Qg, Qf])) : gb25 ≠ gb26)); have n6_ := Qz.mk ((by rw [hg]; exact Nat.ne_of_gt (Ql (g := gb25) (o := .cells #[.slice A0_0 l0_0.length c0_0, .slice A0_1 l0_1.length c0_1] 27 (0, 0)) (by apply_rules [BK25.out, Qe, Qg, Qf])) : gb26 ≠ gb25)); clear BK25; clear HB; have BK25 := n0_; have HB := n1_; have BK26 := n2_; have GW26 := n3_; have GE26 := n4_; have NB766_767 := n5_; have NB767_766 := n6_; clear n0_ n1_ n2_ n3_ n4_ n5_ n6_; clear hb hbox hg; have hnb8 := NB766_767.out; have hnc8 := NB767_766.out; obtain ⟨z9_0, z9_1, j9_0, j9_1⟩ := Lv.blks2 BK25.out) | ((with_reducible refine gate_callee (f := 14) rfl ?_); refine Qat (some 5) rfl rfl Try.func14 (by kernel_rfl) rfl #[.agg #[.slice A0_0 l0_0.length c0_0, .slice A0_1 l0_1.length c0_1]] rfl (by (try simp only [Qj4, Qj5, Qj6]); first | done | rfl | (simp only [Qj7, Qj8]; rfl)) ?_; (with_reducible refine (ZiLogFault.calls k _ _ l0_0 _ _ l0_1 t28 _ ?side1 ?side2 ?side3 ?side4 A2.out).mono ?_); (case side1 => repeat (first | exact (Kd.Qac HR0_0.out HB.out) | (with_reducible first | refine Kd.Qaa ?_ _ | refine Kd.Qz ?_ _ | refine Kd.Qab ?_))); (case side2 => exact HC0_0.out); (case side3 => repeat (first | exact (Kd.Qac HR0_1.out HB.out) | (with_reducible first | refine Kd.Qaa ?_ _ | refine Kd.Qz ?_ _ | refine Kd.Qab ?_))); (case side4 => exact HC0_1.out); rintro e w10 ⟨rfl, hb⟩; refine ⟨_, rfl, ?_⟩; have n0_ := Qz.mk (Qi (g := gb25) (o := .cells #[.slice A0_0 l0_0.length c0_0, .slice A0_1 l0_1.length c0_1] 27 (0, 0)) (by apply_rules [BK25.out, Qe, Qg, Qf]) hb); have n1_ := Qz.mk (Qi (g := gb26) (o := .cells #[.int .i64 0, .int .i64 0, .slice none 0 0, .slice none 0 0] 59 (0, 0)) (by apply_rules [BK26.out, Qe, Qg, Qf]) hb); have n2_ := Qz.mk (Qq (by apply_rules [HB.out, Qc, Qa, Qb, Qd, GE25.out, GE26.out]) hb); clear BK25; clear BK26; clear HB; have BK25 := n0_; have BK26 := n1_; have HB := n2_; clear n0_ n1_ n2_; (try clear hb); (try clear hb2); (try clear hk); (try clear hi)))
  have n0_ := Qz.mk (Qg BK25.out)
  have n1_ := Qz.mk (Qg BK26.out)
  have n2_ := Qz.mk (Qb HB.out)
  clear BK25
  clear BK26
  clear HB
  have BK25 := n0_
  have BK26 := n1_
  have HB := n2_
  clear n0_ n1_ n2_
  refine start_ (n := 7) (S := fun w' => w'.cell? ⟨gb25, 0, none⟩ = some (.slice A0_0 l0_0.length c0_0) ∧ w'.cell? ⟨gb25, 1, none⟩ = some (.slice A0_1 l0_1.length c0_1)) (ds := []) #[Z, Z, Z, Z, Z, Z, Z] (by kernel_rfl) rfl rfl ⟨(Qh BK25.out 0).trans rfl, (Qh BK25.out 1).trans rfl⟩ (fun hHeld => ?_)
  generalize w10.drew = w11 at BK25 BK26 HB hHeld ⊢
  refine take_ (i := 0) (N := some 10) (v := ?_) (a' := ?_) #[Y, Z, Z, Z, Z, Z, Z] rfl rfl (by kernel_rfl) (fun _ _ _ h => h) (Or.inl ⟨by rfl, ?_⟩) hHeld ?_ ?_
  rotate_left
  ·rintro w' ⟨s0, s1⟩
   go_simp
   with_reducible rfl
  rotate_left
  ·simp only [Act.put, Qj1, Qj2, Qj3, Qar, Qas]
   rfl
  refine take_ (i := 2) (N := some 12) (v := ?_) (a' := ?_) #[Y, Z, Y, Z, Z, Z, Z] rfl rfl (by kernel_rfl) (fun _ _ _ h => h) (Or.inl ⟨by rfl, ?_⟩) hHeld ?_ ?_
  rotate_left
  ·rintro w' ⟨s0, s1⟩
   go_simp
   with_reducible rfl
  rotate_left
  ·simp only [Act.put, Qj1, Qj2, Qj3, Qar, Qas]
   rfl
  refine one_ (i := 1) (N := some 11) #[Y, Y, Y, Z, Z, Z, Z] rfl rfl (by kernel_rfl) (by decide) (fun K hK => ?_)
  refine goes_ Try.func72 (by kernel_rfl) rfl #[.agg #[.slice A0_0 l0_0.length c0_0, .slice A0_1 l0_1.length c0_1]] (by rfl) rfl rfl (by (try simp only [Qj4, Qj5, Qj6]); first | done | rfl | (simp only [Qj7, Qj8]; rfl)) ?_
  with_reducible refine (ZiLog_count.calls _ _ l0_0 _ _ l0_1 t29 _ ?side1 ?side2 ?side3 ?side4 A4.out).mono ?_
  (case side1 => repeat (first | exact (Kd.Qac HR0_0.out HB.out) | (with_reducible first | refine Kd.Qaa ?_ _ | refine Kd.Qz ?_ _ | refine Kd.Qab ?_)))
  (case side2 => exact HC0_0.out)
  (case side3 => repeat (first | exact (Kd.Qac HR0_1.out HB.out) | (with_reducible first | refine Kd.Qaa ?_ _ | refine Kd.Qz ?_ _ | refine Kd.Qab ?_)))
  (case side4 => exact HC0_1.out)
  rintro e w12 ⟨rfl, hb⟩
  refine ⟨_, rfl, ?_⟩
  have n0_ := Qz.mk (Qi (g := gb25) (o := .cells #[.slice A0_0 l0_0.length c0_0, .slice A0_1 l0_1.length c0_1] 27 (0, 0)) (by apply_rules [BK25.out, Qe, Qg, Qf]) hb)
  have n1_ := Qz.mk (Qi (g := gb26) (o := .cells #[.int .i64 0, .int .i64 0, .slice none 0 0, .slice none 0 0] 59 (0, 0)) (by apply_rules [BK26.out, Qe, Qg, Qf]) hb)
  have n2_ := Qz.mk (Qq (by apply_rules [HB.out, Qc, Qa, Qb, Qd, GE25.out, GE26.out]) hb)
  clear BK25
  clear BK26
  clear HB
  have BK25 := n0_
  have BK26 := n1_
  have HB := n2_
  clear n0_ n1_ n2_
  (try clear hb)
  (try clear hb2)
  (try clear hk)
  (try clear hi)
  refine hK.out _ _ ⟨(Qh BK25.out 0).trans rfl, (Qh BK25.out 1).trans rfl⟩ (fun hHeld => ?_)
  clear hK K
  refine norm_ (a' := ?_) ?_ ?_
  rotate_left
  ·show Act.put _ (some 11) _ = _
   simp only [Act.put, Qj1, Qj2, Qj3, Qar, Qas]
   rfl
  refine one_ (i := 3) (N := some 13) #[Y, Y, Y, Y, Z, Z, Z] rfl rfl (by kernel_rfl) (by decide) (fun K hK => ?_)
  refine goes_ Try.func50 (by kernel_rfl) rfl #[.agg #[.slice A0_0 l0_0.length c0_0, .slice A0_1 l0_1.length c0_1]] (by rfl) rfl rfl (by (try simp only [Qj4, Qj5, Qj6]); first | done | rfl | (simp only [Qj7, Qj8]; rfl)) ?_
  with_reducible refine (ZiLog_all.calls k (fun k_ => k_ < w.heap.size) _ _ l0_0 (fun k_ => k_ < w.heap.size) _ _ l0_1 t30 _ ?side1 ?side2 A5.out).mono ?_
  (case side1 => exact Kd.V_mk HC0_0.out (Kd.F_below (Kd.C_F (Kd.heap_int .u8) HR0_0.out) (by apply_rules [HB.out, Qc, Qa, Qb, Qd, GE25.out, GE26.out])))
  (case side2 => exact Kd.V_mk HC0_1.out (Kd.F_below (Kd.C_F (Kd.heap_int .u8) HR0_1.out) (by apply_rules [HB.out, Qc, Qa, Qb, Qd, GE25.out, GE26.out])))
  rintro e w13 ⟨v33, rfl, ho0, hb⟩
  refine ⟨_, rfl, ?_⟩
  have n0_ := Qz.mk (Kd.Qan (Kd.Qw (ok' := fun k_ => True) ho0 (fun _ hk_ => trivial)) (Qp (by apply_rules [HB.out, Qc, Qa, Qb, Qd, GE25.out, GE26.out])))
  have n1_ := Qz.mk (Qi (g := gb25) (o := .cells #[.slice A0_0 l0_0.length c0_0, .slice A0_1 l0_1.length c0_1] 27 (0, 0)) (by apply_rules [BK25.out, Qe, Qg, Qf]) hb)
  have n2_ := Qz.mk (Qi (g := gb26) (o := .cells #[.int .i64 0, .int .i64 0, .slice none 0 0, .slice none 0 0] 59 (0, 0)) (by apply_rules [BK26.out, Qe, Qg, Qf]) hb)
  have n3_ := Qz.mk (Qq (by apply_rules [HB.out, Qc, Qa, Qb, Qd, GE25.out, GE26.out]) hb)
  clear BK25
  clear BK26
  clear HB
  have HO31 := n0_
  have BK25 := n1_
  have BK26 := n2_
  have HB := n3_
  clear n0_ n1_ n2_ n3_
  (try clear hb)
  (try clear hb2)
  (try clear hk)
  (try clear hi)
  (try clear ho0)
  obtain ⟨Ao14, co14, eo14⟩ := Kd.R_slice HO31.out
  (first | subst eo14 | (injection eo14 with f1_ f2_ f3_; have f4_ := f1_.symm; have f5_ := f3_.symm; clear f1_ f2_ f3_; subst f4_; subst f5_))
  refine hK.out _ _ ⟨(Qh BK25.out 0).trans rfl, (Qh BK25.out 1).trans rfl⟩ (fun hHeld => ?_)
  clear hK K
  refine norm_ (a' := ?_) ?_ ?_
  rotate_left
  ·show Act.put _ (some 13) _ = _
   simp only [Act.put, Qj1, Qj2, Qj3, Qar, Qas]
   rfl
  refine pure_ (i := 4) (N := some 14) (v := ?_) (a' := ?_) #[Y, Y, Y, Y, Y, Z, Z] rfl rfl (by kernel_rfl) (fun _ _ _ h => h) (Or.inl ⟨by rfl, ?_⟩) ?_ ?_
  rotate_left
  ·intro w'
   go_simp
   with_reducible rfl
  rotate_left
  ·simp only [Act.put, Qj1, Qj2, Qj3, Qar, Qas]
   rfl
  refine pure_ (i := 5) (N := some 15) (v := ?_) (a' := ?_) #[Y, Y, Y, Y, Y, Y, Z] rfl rfl (by kernel_rfl) (fun _ _ _ h => h) (Or.inl ⟨by rfl, ?_⟩) ?_ ?_
  rotate_left
  ·intro w'
   go_simp
   with_reducible rfl
  rotate_left
  ·simp only [Act.put, Qj1, Qj2, Qj3, Qar, Qas]
   rfl
  refine one_ (i := 6) (N := none) #[Y, Y, Y, Y, Y, Y, Y] rfl rfl (by kernel_rfl) (by decide) (fun K hK => ?_)
  have hs15 : w13.cell? ⟨gb26, 0, none⟩ = some (.int .i64 0) := (Qh BK26.out 0).trans rfl
  have hfs15 := Qj BK26.out 0
  have hns15_0 := NB766_767.out
  have hms15_0 := NB767_766.out
  have hs16 : w13.cell? ⟨gb26, 1, none⟩ = some (.int .i64 0) := (Qh BK26.out 1).trans rfl
  have hfs16 := Qj BK26.out 1
  have hns16_0 := NB766_767.out
  have hms16_0 := NB767_766.out
  have hs17 : w13.cell? ⟨gb26, 2, none⟩ = some (.slice none 0 0) := (Qh BK26.out 2).trans rfl
  have hfs17 := Qj BK26.out 2
  have hns17_0 := NB766_767.out
  have hms17_0 := NB767_766.out
  have hs18 : w13.cell? ⟨gb26, 3, none⟩ = some (.slice none 0 0) := (Qh BK26.out 3).trans rfl
  have hfs18 := Qj BK26.out 3
  have hns18_0 := NB766_767.out
  have hms18_0 := NB767_766.out
  refine skip_ (w1 := ?_) (by rfl) rfl ?_ ?_
  rotate_left
  ·go_simp
   rfl
  refine hK.out _ _ ⟨((Qaq (p := ⟨gb26, _, none⟩) NB766_767.out _).trans (((Qaq (p := ⟨gb26, _, none⟩) NB766_767.out _).trans (((Qaq (p := ⟨gb26, _, none⟩) NB766_767.out _).trans (((Qaq (p := ⟨gb26, _, none⟩) NB766_767.out _).trans (hHeld.1)))))))), ((Qaq (p := ⟨gb26, _, none⟩) NB766_767.out _).trans (((Qaq (p := ⟨gb26, _, none⟩) NB766_767.out _).trans (((Qaq (p := ⟨gb26, _, none⟩) NB766_767.out _).trans (((Qaq (p := ⟨gb26, _, none⟩) NB766_767.out _).trans (hHeld.2))))))))⟩ (fun hHeld => ?_)
  clear hK K
  refine done_ (by kernel_rfl) ?_
  try go_wp2
  refine bodyPost_ret (results_cell_row rfl _ _ gb26 59 #[.int .i64 0, .int .i64 t29, .slice Ao14 t30.length co14, .slice none 0 0] (0, 0) _ rfl (by (with_reducible repeat (first | refine Qe ?_ _ | refine Qg ?_ | refine Qf ?_ _)); refine Qk (cs := #[.int .i64 0, .int .i64 t29, .slice Ao14 t30.length co14, .slice none 0 0]) ?_ 3 _ rfl; (with_reducible repeat (first | refine Qe ?_ _ | refine Qg ?_ | refine Qf ?_ _)); refine Qk (cs := #[.int .i64 0, .int .i64 t29, .slice none 0 0, .slice none 0 0]) ?_ 2 _ rfl; (with_reducible repeat (first | refine Qe ?_ _ | refine Qg ?_ | refine Qf ?_ _)); refine Qk (cs := #[.int .i64 0, .int .i64 0, .slice none 0 0, .slice none 0 0]) ?_ 1 _ rfl; (with_reducible repeat (first | refine Qe ?_ _ | refine Qg ?_ | refine Qf ?_ _)); refine Qk (cs := #[.int .i64 0, .int .i64 0, .slice none 0 0, .slice none 0 0]) ?_ 0 _ rfl; apply_rules [BK26.out, Qe, Qg, Qf]) Try.underlying59 rfl (by kernel_rfl)) rfl ?_
  exact ⟨_, _, by first | rfl | (simp [Qv, Qu] <;> rfl) | (simp [*, Qv, Qu] <;> rfl), by (with_reducible repeat (first | apply Kd.Qn | apply Kd.Qm | apply Kd.Qo)); exact Kd.Qw (Kd.Qx (p := ⟨gb26, 3, none⟩) (Kd.Qx (p := ⟨gb26, 2, none⟩) (Kd.Qx (p := ⟨gb26, 1, none⟩) (Kd.Qx (p := ⟨gb26, 0, none⟩) (Kd.Qai HO31.out BK26.out (by decide)) (fun _ hk => hk.2) (.int .i64 0)) (fun _ hk => hk.2) (.int .i64 t29)) (fun _ hk => hk.2) (.slice Ao14 t30.length co14)) (fun _ hk => hk.2) (.slice none 0 0)) (fun _ hk => (by simp [Value.ownBlock])), by first | exact Kd.R_nil _ _ _ _ _ | exact Kd.N_nil _ _ _ _ _ | exact Kd.V_nil _ _ _ _ _ | exact Kd.Q_nil _ _ _ _ _ | exact Kd.S_nil _ _ _ _ _, by apply_rules [HB.out, Qc, Qa, Qb, Qd, GE25.out, GE26.out]⟩
 rw [if_neg c3] at H
 have c3b0 : (t28 == 0) = false := beq_eq_false_iff_ne.mpr c3
 have c3b1 : (t28 != 0) = true := bne_iff_ne.mpr c3
 simp only [Option.some.injEq, Prod.mk.injEq] at H
 obtain ⟨rfl, rfl, rfl, rfl⟩ := H
 go_enter Try.func37, Try.ntmps37
 go_wp2_with (first | ((with_reducible refine gate_dst (N := 1) rfl ?_); refine box_event ?hg (N := 1) ?hd (cs := #[.slice A0_0 l0_0.length c0_0, .slice A0_1 l0_1.length c0_1]) (t := 27) ?hr ?_; (case hd => rfl); (case hg => rfl); (case hr => first | (go_simp; done) | (go_simp; rfl)); intro gb25 hg w19 hbox hb; have n0_ := Qz.mk (Qq (by apply_rules [HB.out, Qc, Qa, Qb]) hb); have n1_ := Qz.mk (hbox); have n2_ := Qz.mk ((by rw [hg]; exact (Qp (by apply_rules [HB.out, Qc, Qa, Qb])) : w.heap.size ≤ gb25)); have n3_ := n2_; clear HB; have HB := n0_; have BK25 := n1_; have GW25 := n2_; have GE25 := n3_; clear n0_ n1_ n2_ n3_; clear hb hbox hg) | ((with_reducible refine gate_dst (N := 2) rfl ?_); refine box_event ?hg (N := 2) ?hd (cs := #[.int .i64 0, .int .i64 0, .slice none 0 0, .slice none 0 0]) (t := 59) ?hr ?_; (case hd => rfl); (case hg => rfl); (case hr => first | (go_simp; done) | (go_simp; rfl)); intro gb26 hg w20 hbox hb; have n0_ := Qz.mk (Qi (g := gb25) (o := .cells #[.slice A0_0 l0_0.length c0_0, .slice A0_1 l0_1.length c0_1] 27 (0, 0)) (by apply_rules [BK25.out, Qe, Qg, Qf]) hb); have n1_ := Qz.mk (Qq (by apply_rules [HB.out, Qc, Qa, Qb, Qd, GE25.out]) hb); have n2_ := Qz.mk (hbox); have n3_ := Qz.mk ((by rw [hg]; exact (Qp (by apply_rules [HB.out, Qc, Qa, Qb, Qd, GE25.out])) : w.heap.size ≤ gb26)); have n4_ := n3_; have n5_ := Qz.mk ((by rw [hg]; exact Nat.ne_of_lt (Ql (g := gb25) (o := .cells #[.slice A0_0 l0_0.length c0_0, .slice A0_1 l0_1.length c0_1] 27 (0, 0)) (by apply_rules [BK25.out, Qe, Qg, Qf])) : gb25 ≠ gb26)); have n6_ := Qz.mk ((by rw [hg]; exact Nat.ne_of_gt (Ql (g := gb25) (o := .cells #[.slice A0_0 l0_0.length c0_0, .slice A0_1 l0_1.length c0_1] 27 (0, 0)) (by apply_rules [BK25.out, Qe, Qg, Qf])) : gb26 ≠ gb25)); clear BK25; clear HB; have BK25 := n0_; have HB := n1_; have BK26 := n2_; have GW26 := n3_; have GE26 := n4_; have NB766_767 := n5_; have NB767_766 := n6_; clear n0_ n1_ n2_ n3_ n4_ n5_ n6_; clear hb hbox hg; have hnb21 := NB766_767.out; have hnc21 := NB767_766.out; obtain ⟨z22_0, z22_1, j22_0, j22_1⟩ := Lv.blks2 BK25.out) | ((with_reducible refine gate_callee (f := 14) rfl ?_); refine Qat (some 5) rfl rfl Try.func14 (by kernel_rfl) rfl #[.agg #[.slice A0_0 l0_0.length c0_0, .slice A0_1 l0_1.length c0_1]] rfl (by (try simp only [Qj4, Qj5, Qj6]); first | done | rfl | (simp only [Qj7, Qj8]; rfl)) ?_; (with_reducible refine (ZiLogFault.calls k _ _ l0_0 _ _ l0_1 t28 _ ?side1 ?side2 ?side3 ?side4 A2.out).mono ?_); (case side1 => repeat (first | exact (Kd.Qac HR0_0.out HB.out) | (with_reducible first | refine Kd.Qaa ?_ _ | refine Kd.Qz ?_ _ | refine Kd.Qab ?_))); (case side2 => exact HC0_0.out); (case side3 => repeat (first | exact (Kd.Qac HR0_1.out HB.out) | (with_reducible first | refine Kd.Qaa ?_ _ | refine Kd.Qz ?_ _ | refine Kd.Qab ?_))); (case side4 => exact HC0_1.out); rintro e w23 ⟨rfl, hb⟩; refine ⟨_, rfl, ?_⟩; have n0_ := Qz.mk (Qi (g := gb25) (o := .cells #[.slice A0_0 l0_0.length c0_0, .slice A0_1 l0_1.length c0_1] 27 (0, 0)) (by apply_rules [BK25.out, Qe, Qg, Qf]) hb); have n1_ := Qz.mk (Qi (g := gb26) (o := .cells #[.int .i64 0, .int .i64 0, .slice none 0 0, .slice none 0 0] 59 (0, 0)) (by apply_rules [BK26.out, Qe, Qg, Qf]) hb); have n2_ := Qz.mk (Qq (by apply_rules [HB.out, Qc, Qa, Qb, Qd, GE25.out, GE26.out]) hb); clear BK25; clear BK26; clear HB; have BK25 := n0_; have BK26 := n1_; have HB := n2_; clear n0_ n1_ n2_; (try clear hb); (try clear hb2); (try clear hk); (try clear hi); obtain ⟨z24_0, z24_1, z24_2, z24_3, j24_0, j24_1, j24_2, j24_3⟩ := Lv.blks4 BK26.out))
 refine bodyPost_ret (results_cell_row rfl _ _ gb26 59 #[.int .i64 t28, .int .i64 0, .slice none 0 0, .slice none 0 0] (0, 0) _ rfl (by (with_reducible repeat (first | refine Qe ?_ _ | refine Qg ?_ | refine Qf ?_ _)); refine Qk (cs := #[.int .i64 t28, .int .i64 0, .slice none 0 0, .slice none 0 0]) ?_ 3 _ rfl; (with_reducible repeat (first | refine Qe ?_ _ | refine Qg ?_ | refine Qf ?_ _)); refine Qk (cs := #[.int .i64 t28, .int .i64 0, .slice none 0 0, .slice none 0 0]) ?_ 2 _ rfl; (with_reducible repeat (first | refine Qe ?_ _ | refine Qg ?_ | refine Qf ?_ _)); refine Qk (cs := #[.int .i64 t28, .int .i64 0, .slice none 0 0, .slice none 0 0]) ?_ 1 _ rfl; (with_reducible repeat (first | refine Qe ?_ _ | refine Qg ?_ | refine Qf ?_ _)); refine Qk (cs := #[.int .i64 0, .int .i64 0, .slice none 0 0, .slice none 0 0]) ?_ 0 _ rfl; apply_rules [BK26.out, Qe, Qg, Qf]) Try.underlying59 rfl (by kernel_rfl)) rfl ?_
 exact ⟨_, _, by first | rfl | (simp [Qv, Qu] <;> rfl) | (simp [*, Qv, Qu] <;> rfl), by first | exact Kd.R_nil _ _ _ _ _ | exact Kd.N_nil _ _ _ _ _ | exact Kd.V_nil _ _ _ _ _ | exact Kd.Q_nil _ _ _ _ _ | exact Kd.S_nil _ _ _ _ _, by first | exact Kd.R_nil _ _ _ _ _ | exact Kd.N_nil _ _ _ _ _ | exact Kd.V_nil _ _ _ _ _ | exact Kd.Q_nil _ _ _ _ _ | exact Kd.S_nil _ _ _ _ _, by apply_rules [HB.out, Qc, Qa, Qb, Qd, GE25.out, GE26.out]⟩
end Go.Proofs.Ythagppmaofcllaa.P
