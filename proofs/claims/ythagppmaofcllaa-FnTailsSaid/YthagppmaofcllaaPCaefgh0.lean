import Derived.Test.YthagppmaofcllaaZz
import Derived.Test.YthagppmaofcllaaP0
import Derived.Test.YthagppmaofcllaaPCadefgh2
import Derived.Test.YthagppmaofcllaaPCadefgh4
import Derived.Test.YthagppmaofcllaaPDadefgh0
import Derived.Test.YthagppmaofcllaaPDm0
import Derived.Test.YthagppmaofcllaaWRepsOne
import Derived.Test.YthagppmaofcllaaWTab
import Derived.Test.YthagppmaofcllaaLv
import Derived.Shelf.Spec.SlicesGrow
import Derived.Test.YthagppmaofcllaaLv
import Derived.Test.YthagppmaofcllaaLv
namespace Go.Proofs.Ythagppmaofcllaa.P
open Go.RowKit Go.Proofs.YthagppmaofcllaaW.PrintWords Go.Proofs.YthagppmaofcllaaW.PrintLast Go.Proofs.YthagppmaofcllaaW.PrintMore
attribute [local go_sem] max2_int min2_int max_two min_two max_three min_three max_four min_four   -- for this text's walks alone
set_option linter.unusedVariables false
set_option linter.unusedSimpArgs false
theorem yf0 {p : Prop} (h : p := by first | (go_simp; done) | (go_simp; rfl)) : p := h
def Zsl3All.T1 : Bool × List (List Nat × List Nat) := (true, [([], []), ([], []), ([1], [1]), ([0, 2], [0, 2]), ([], []), ([4], [4]), ([3, 5, 3], [3, 5]), ([6, 6, 0, 1, 2, 3, 4, 5, 6], [6])])
def Zsl3All.B1 : List Nat := [0, 0, 2, 7, 0, 16, 63, 127]
theorem Zsl3All.tab1 : rtab .any (opsOf Try.f48 1) = Zsl3All.T1 := by kernel_rfl
theorem Zsl3All.bits1 : waitsOk Zsl3All.T1.2 Zsl3All.B1 = true := by kernel_rfl
set_option maxHeartbeats 8000000 in
set_option maxRecDepth 100000 in
theorem Zsl3All.calls (A0_0 : Option Addr) (c0_0 : Nat) (l0_0 : List Int) (A0_1 : Option Addr) (c0_1 : Nat) (l0_1 : List Int) (r : List Int) (w : World) (hr0_0 : Kd.C (Kd.int .u8) w A0_0 l0_0.length l0_0) (hc0_0 : l0_0.length ≤ c0_0) (hr0_1 : Kd.C (Kd.int .u8) w A0_1 l0_1.length l0_1) (hc0_1 : l0_1.length ≤ c0_1) (h : Zsl3All.f l0_0 l0_1 = some r) :
 Calls Try.prog 48 #[.agg #[.slice A0_0 l0_0.length c0_0, .slice A0_1 l0_1.length c0_1]] w fun e w' => ∃ v0_ : Value, e = .returned (v0_) ∧ Kd.R (Kd.int .u8) 5 w' w.heap.size (fun _ => True) v0_ r ∧ Below w.heap.size w w' := by
 have hu27 := Try.underlying27
 have HR0_0 := Qz.mk hr0_0
 have HC0_0 := Qz.mk hc0_0
 clear hr0_0 hc0_0
 have HR0_1 := Qz.mk hr0_1
 have HC0_1 := Qz.mk hc0_1
 clear hr0_1 hc0_1
 have HB := Qz.mk (Below.refl w.heap.size w)
 have H : ((some (([] : List Int) : List Int)).bind fun y12 => (if y12.length + l0_0.length < 140737488355328 then ((some (y12 ++ l0_0 : List Int)).bind fun y11 => (if y11.length + l0_1.length < 140737488355328 then (some (y11 ++ l0_1)) else (none))) else (none))) = some r := h
 clear h
 obtain ⟨y12, hy12⟩ : ∃ y_ : List Int, y_ = (([] : List Int)) := ⟨_, rfl⟩
 replace H : (if y12.length + l0_0.length < 140737488355328 then ((some (y12 ++ l0_0 : List Int)).bind fun y11 => (if y11.length + l0_1.length < 140737488355328 then (some (y11 ++ l0_1)) else (none))) else (none)) = some r := by first | (rw [hy12]; with_reducible exact H) | (have H2_ := (Option.bind_some _ _).symm.trans H; rw [hy12]; with_reducible exact H2_) | (have H2_ := (Option.bind_some _ _).symm.trans H; with_reducible exact H2_) | with_reducible exact H | (rw [hy12]; exact H) | exact H
 have Ny12 := Qz.mk hy12
 clear hy12
 by_cases c2 : y12.length + l0_0.length < 140737488355328
 ·rw [if_pos c2] at H
  have LMc2 := Qz.mk c2
  clear c2
  obtain ⟨y11, hy11⟩ : ∃ y_ : List Int, y_ = (y12 ++ l0_0) := ⟨_, rfl⟩
  replace H : (if y11.length + l0_1.length < 140737488355328 then (some (y11 ++ l0_1)) else (none)) = some r := by first | (rw [hy11]; with_reducible exact H) | (have H2_ := (Option.bind_some _ _).symm.trans H; rw [hy11]; with_reducible exact H2_) | (have H2_ := (Option.bind_some _ _).symm.trans H; with_reducible exact H2_) | with_reducible exact H | (rw [hy11]; exact H) | exact H
  have Ny11 := Qz.mk hy11
  clear hy11
  by_cases c3 : y11.length + l0_1.length < 140737488355328
  ·rw [if_pos c3] at H
   have LMc3 := Qz.mk c3
   clear c3
   obtain ⟨y13, hy13⟩ : ∃ y_ : List Int, y_ = (y11 ++ l0_1) := ⟨_, rfl⟩
   replace H : (some y13) = some r := by first | (rw [hy13]; with_reducible exact H) | (have H2_ := (Option.bind_some _ _).symm.trans H; rw [hy13]; with_reducible exact H2_) | (have H2_ := (Option.bind_some _ _).symm.trans H; with_reducible exact H2_) | with_reducible exact H | (rw [hy13]; exact H) | exact H
   have Ny13 := Qz.mk hy13
   clear hy13
   obtain rfl := Option.some.inj H
   go_enter Try.func48, Try.ntmps48
   try go_wp2_with (first | ((with_reducible refine gate_dst (N := 1) rfl ?_); refine box_event ?hg (N := 1) ?hd (cs := #[.slice A0_0 l0_0.length c0_0, .slice A0_1 l0_1.length c0_1]) (t := 27) ?hr ?_; (case hd => rfl); (case hg => rfl); (case hr => exact yf0); intro gb10 hg w4 hbox hb; have n0_ := Qz.mk (Qq zb hb); have n1_ := Qz.mk (hbox); have n2_ := Qz.mk ((zh hg : w.heap.size ≤ gb10)); have n3_ := n2_; clear HB; have HB := n0_; have BK10 := n1_; have GW10 := n2_; have GE10 := n3_; clear n0_ n1_ n2_ n3_; clear hb hbox hg))
   have n0_ := Qz.mk (Qg BK10.out)
   have n1_ := Qz.mk (Qb HB.out)
   clear BK10
   clear HB
   have BK10 := n0_
   have HB := n1_
   clear n0_ n1_
   refine start_ (n := 8) (S := fun w' => w'.cell? ⟨gb10, 0, none⟩ = some (.slice A0_0 l0_0.length c0_0) ∧ w'.cell? ⟨gb10, 1, none⟩ = some (.slice A0_1 l0_1.length c0_1)) (ds := []) #[Z, Z, Z, Z, Z, Z, Z, Z] (by kernel_rfl) rfl rfl ⟨(Qh BK10.out 0).trans rfl, (Qh BK10.out 1).trans rfl⟩ (fun hHeld => ?_); refine with_tabW Zsl3All.tab1 Zsl3All.bits1 (fun HT_ HW_ => ?_)
   generalize w4.drew = w5 at BK10 HB hHeld ⊢
   refine zp 1 4 ?_; refine zp 4 7 ?_; refine zt 2 5 ?_; refine zt 5 8 ?_
   refine one_ (i := 0) (N := some 3) #[Y, Y, Y, Z, Y, Y, Z, Z] rfl rfl (one_of HT_.out (by kernel_rfl)) (by decide) (fun K hK => ?_)
   refine Kd.R_lit_step (Kd.int .u8) _ 5 ?hg (N := 3) ?hd (xs := ([] : List Int)) (inner := []) (ok := fun _ => True) (okp := fun _ => True) ?hr ?hp (fun _ hk => hk) trivial (Below.refl _ _) (Nat.le_refl _) (by simp) ?_; (case hd => rfl); (case hg => rfl); (case hr => exact yf0); (case hp => exact (Reps.none _ _))
   intro v16 w6 ho7 hb hg_ hnew_
   clear hg_ hnew_
   (first | rw [← Ny12.out] at ho7 | (simp only [Int.reduceToNat] at ho7; rw [← Ny12.out] at ho7))
   have n0_ := Qz.mk (Kd.Qan ho7 (Qp zb))
   have n1_ := Qz.mk (Qi (g := gb10) (o := .cells #[.slice A0_0 l0_0.length c0_0, .slice A0_1 l0_1.length c0_1] 27 (0, 0)) zk hb)
   have n2_ := Qz.mk (Qq zb hb)
   clear BK10
   clear HB
   have HO14 := n0_
   have BK10 := n1_
   have HB := n2_
   clear n0_ n1_ n2_
   clear hb ho7
   refine hK.out _ _ ⟨(Qh BK10.out 0).trans rfl, (Qh BK10.out 1).trans rfl⟩ (fun hHeld => ?_)
   clear hK K
   refine norm_ (a' := ?_) ?_ ?_
   rotate_left
   ·show Act.put _ (some 3) _ = _
    simp only [Act.put, List.setIfInBounds_toArray, List.set_cons_zero, List.set_cons_succ, Qar, Qas]
    rfl
   refine one_ (i := 3) (N := some 6) #[Y, Y, Y, Y, Y, Y, Z, Z] rfl rfl (one_of HT_.out (by kernel_rfl)) (by decide) (fun K hK => ?_)
   refine Kd.R_append_rows_step (Kd.int .u8) (w0 := w) w.heap.size (by rfl) (.tmp 3) (.tmp 5) 22 5 (.int .u8 0) 1 rfl Try.underlying22 info5 rfl (by decide) (by omega) v16 y12 l0_0 _ _ _ (fun _ => True) (fun _ => False) rfl rfl ?aO ?aR (fun _ _ h => h) (fun _ h => h.elim) ?aF ?aB ?aS ?aL ?_
   (case aR => repeat (first | exact (Kd.Qac HR0_0.out HB.out) | (with_reducible first | refine Kd.Qaa ?_ _ | refine Kd.Qz ?_ _ | refine Kd.Qab ?_)))
   (case aB => exact zb)
   (case aF => exact (fun _ _ => trivial))
   (case aO => exact (zr HO14))
   (case aS => exact (Qp zb))
   (case aL => have := LMc2.out; omega)
   intro v17 w8 ho hb hg hat
   rw [← Ny11.out] at ho
   have n0_ := Qz.mk (blk_grown (g := gb10) (o := .cells #[.slice A0_0 l0_0.length c0_0, .slice A0_1 l0_1.length c0_1] 27 (0, 0)) zk hg (Kd.R_ne HO14.out BK10.out (by decide)))
   have n1_ := Qz.mk (hb)
   have n2_ := Qz.mk (ho)
   clear BK10
   clear HB
   clear HO14
   have BK10 := n0_
   have HB := n1_
   have HO15 := n2_
   clear n0_ n1_ n2_
   clear ho hb hg hat
   refine hK.out _ _ ⟨(Qh BK10.out 0).trans rfl, (Qh BK10.out 1).trans rfl⟩ (fun hHeld => ?_)
   clear hK K
   refine norm_ (a' := ?_) ?_ ?_
   rotate_left
   ·show Act.put _ (some 6) _ = _
    simp only [Act.put, List.setIfInBounds_toArray, List.set_cons_zero, List.set_cons_succ, Qar, Qas]
    rfl
   refine one_ (i := 6) (N := some 9) #[Y, Y, Y, Y, Y, Y, Y, Z] rfl rfl (one_of HT_.out (by kernel_rfl)) (by decide) (fun K hK => ?_)
   refine Kd.R_append_rows_step (Kd.int .u8) (w0 := w) w.heap.size (by rfl) (.tmp 6) (.tmp 8) 22 5 (.int .u8 0) 1 rfl Try.underlying22 info5 rfl (by decide) (by omega) v17 y11 l0_1 _ _ _ (fun _ => True) (fun _ => False) rfl rfl ?aO ?aR (fun _ _ h => h) (fun _ h => h.elim) ?aF ?aB ?aS ?aL ?_
   (case aR => repeat (first | exact (Kd.Qac HR0_1.out HB.out) | (with_reducible first | refine Kd.Qaa ?_ _ | refine Kd.Qz ?_ _ | refine Kd.Qab ?_)))
   (case aB => exact zb)
   (case aF => exact (fun _ _ => trivial))
   (case aO => exact (zr HO15))
   (case aS => exact (Qp zb))
   (case aL => have := LMc3.out; omega)
   intro v19 w9 ho hb hg hat
   rw [← Ny13.out] at ho
   have n0_ := Qz.mk (blk_grown (g := gb10) (o := .cells #[.slice A0_0 l0_0.length c0_0, .slice A0_1 l0_1.length c0_1] 27 (0, 0)) zk hg (Kd.R_ne HO15.out BK10.out (by decide)))
   have n1_ := Qz.mk (hb)
   have n2_ := Qz.mk (ho)
   clear BK10
   clear HB
   clear HO15
   have BK10 := n0_
   have HB := n1_
   have HO18 := n2_
   clear n0_ n1_ n2_
   clear ho hb hg hat
   refine hK.out _ _ ⟨(Qh BK10.out 0).trans rfl, (Qh BK10.out 1).trans rfl⟩ (fun hHeld => ?_)
   clear hK K
   refine norm_ (a' := ?_) ?_ ?_
   rotate_left
   ·show Act.put _ (some 9) _ = _
    simp only [Act.put, List.setIfInBounds_toArray, List.set_cons_zero, List.set_cons_succ, Qar, Qas]
    rfl
   refine zp 7 2 ?_
   refine done_ (done_of HT_.out (by kernel_rfl)) ?_
   try go_wp2
   go_ret
   exact ⟨_, ze, by refine zR ?_; exact HO18.out, zb⟩
  rw [if_neg c3] at H
  exact absurd H (by simp)
 rw [if_neg c2] at H
 exact absurd H (by simp)
set_option maxHeartbeats 8000000 in
set_option maxRecDepth 100000 in
theorem ZsLogFault.calls (k : Nat) (A0_0 : Option Addr) (c0_0 : Nat) (l0_0 : List Int) (A0_1 : Option Addr) (c0_1 : Nat) (l0_1 : List Int) (r : Int) (w : World) (hr0_0 : Kd.C (Kd.int .u8) w A0_0 l0_0.length l0_0) (hc0_0 : l0_0.length ≤ c0_0) (hr0_1 : Kd.C (Kd.int .u8) w A0_1 l0_1.length l0_1) (hc0_1 : l0_1.length ≤ c0_1) (h : ZsLogFault.f k l0_0 l0_1 = some r) :
 Calls Try.prog 12 #[.agg #[.slice A0_0 l0_0.length c0_0, .slice A0_1 l0_1.length c0_1]] w fun e w' => e = .returned (.int .i64 r) ∧ Below w.heap.size w w' := by
 have hu27 := Try.underlying27
 have HR0_0 := Qz.mk hr0_0
 have HC0_0 := Qz.mk hc0_0
 clear hr0_0 hc0_0
 have HR0_1 := Qz.mk hr0_1
 have HC0_1 := Qz.mk hc0_1
 clear hr0_1 hc0_1
 have HB := Qz.mk (Below.refl w.heap.size w)
 have H : (if (wrap64 ((l0_0.length : Int) + (l0_1.length : Int))) > 4000 then (some 2) else ((Zsl3All.f l0_0 l0_1).bind fun t20 => ((Zsl3Recs.f k t20).bind fun bt23 => (if bt23.2 = (t20.length : Int) then (some 0) else (some 5))))) = some r := h
 clear h
 by_cases c2 : (wrap64 ((l0_0.length : Int) + (l0_1.length : Int))) > 4000
 ·rw [if_pos c2] at H
  have c2b0 : decide (4000 < (wrap64 ((l0_0.length : Int) + (l0_1.length : Int)))) = true := decide_eq_true c2
  clear c2
  obtain rfl := Option.some.inj H
  go_enter Try.func12, Try.ntmps12
  go_wp2_with (first | ((with_reducible refine gate_dst (N := 1) rfl ?_); refine box_event ?hg (N := 1) ?hd (cs := #[.slice A0_0 l0_0.length c0_0, .slice A0_1 l0_1.length c0_1]) (t := 27) ?hr ?_; (case hd => rfl); (case hg => rfl); (case hr => exact yf0); intro gb19 hg w3 hbox hb; have n0_ := Qz.mk (Qq zb hb); have n1_ := Qz.mk (hbox); have n2_ := Qz.mk ((zh hg : w.heap.size ≤ gb19)); have n3_ := n2_; clear HB; have HB := n0_; have BK19 := n1_; have GW19 := n2_; have GE19 := n3_; clear n0_ n1_ n2_ n3_; clear hb hbox hg; obtain ⟨z4_0, z4_1, j4_0, j4_1⟩ := Lv.blks2 BK19.out))
  go_ret
  exact ⟨ze, zb⟩
 rw [if_neg c2] at H
 have c2b0 : decide (4000 < (wrap64 ((l0_0.length : Int) + (l0_1.length : Int)))) = false := decide_eq_false c2
 clear c2
 replace H := Option.bind_eq_some_iff.mp H
 obtain ⟨t20, A50, H⟩ := H
 replace H : ((Zsl3Recs.f k t20).bind fun bt23 => (if bt23.2 = (t20.length : Int) then (some 0) else (some 5))) = some r := H
 have A5 := Qz.mk A50
 clear A50
 replace H := Option.bind_eq_some_iff.mp H
 obtain ⟨⟨t23, t22⟩, A60, H⟩ := H
 replace H : (if t22 = (t20.length : Int) then (some 0) else (some 5)) = some r := H
 have A6 := Qz.mk A60
 clear A60
 by_cases c7 : t22 = (t20.length : Int)
 ·rw [if_pos c7] at H
  have c7b0 : (t22 == (t20.length : Int)) = true := beq_iff_eq.mpr c7
  have c7b1 : (t22 != (t20.length : Int)) = false := bne_eq_false_iff_eq.mpr c7
  clear c7
  obtain rfl := Option.some.inj H
  go_enter Try.func12, Try.ntmps12
  go_wp2_with (first | ((with_reducible refine gate_dst (N := 1) rfl ?_); refine box_event ?hg (N := 1) ?hd (cs := #[.slice A0_0 l0_0.length c0_0, .slice A0_1 l0_1.length c0_1]) (t := 27) ?hr ?_; (case hd => rfl); (case hg => rfl); (case hr => exact yf0); intro gb19 hg w8 hbox hb; have n0_ := Qz.mk (Qq zb hb); have n1_ := Qz.mk (hbox); have n2_ := Qz.mk ((zh hg : w.heap.size ≤ gb19)); have n3_ := n2_; clear HB; have HB := n0_; have BK19 := n1_; have GW19 := n2_; have GE19 := n3_; clear n0_ n1_ n2_ n3_; clear hb hbox hg; obtain ⟨z9_0, z9_1, j9_0, j9_1⟩ := Lv.blks2 BK19.out) | ((with_reducible refine gate_callee (f := 48) rfl ?_); refine Qat (some 15) rfl rfl Try.func48 (by kernel_rfl) rfl #[.agg #[.slice A0_0 l0_0.length c0_0, .slice A0_1 l0_1.length c0_1]] rfl zm ?_; (with_reducible refine (Zsl3All.calls _ _ l0_0 _ _ l0_1 t20 _ ?side1 ?side2 ?side3 ?side4 A5.out).mono ?_); (case side1 => exact zc (Kd.Qac HR0_0.out HB.out)); (case side2 => exact HC0_0.out); (case side3 => exact zc (Kd.Qac HR0_1.out HB.out)); (case side4 => exact HC0_1.out); rintro e w10 ⟨v24, rfl, ho0, hb⟩; refine ⟨_, rfl, ?_⟩; have n0_ := Qz.mk (Kd.Qan ho0 (Qp zb)); have n1_ := Qz.mk (Qi (g := gb19) (o := .cells #[.slice A0_0 l0_0.length c0_0, .slice A0_1 l0_1.length c0_1] 27 (0, 0)) zk hb); have n2_ := Qz.mk (Qq zb hb); clear BK19; clear HB; have HO21 := n0_; have BK19 := n1_; have HB := n2_; clear n0_ n1_ n2_; (try clear hb); (try clear hb2); (try clear hk); (try clear hi); (try clear ho0); obtain ⟨Ao11, co11, eo11⟩ := Kd.R_slice HO21.out; subst eo11) | ((with_reducible refine gate_callee (f := 49) rfl ?_); refine Qat (some 18) rfl rfl Try.func49 (by kernel_rfl) rfl #[.slice Ao11 t20.length co11] rfl zm ?_; (with_reducible refine (Zsl3Recs.calls k _ _ t20 t23 t22 _ ?side1 ?side2 A6.out).mono ?_); (case side1 => exact zc (Kd.Qaj HO21.out).2.2); (case side2 => exact (Kd.Qaj HO21.out).2.1); rintro e w12 ⟨v25, rfl, ho0, hb⟩; refine ⟨_, rfl, ?_⟩; have n0_ := Qz.mk (Kd.Qy (zr HO21) hb); have n1_ := Qz.mk (Kd.Qan ho0 (Qp zb)); have n2_ := Qz.mk (Qi (g := gb19) (o := .cells #[.slice A0_0 l0_0.length c0_0, .slice A0_1 l0_1.length c0_1] 27 (0, 0)) zk hb); have n3_ := Qz.mk (Qq zb hb); clear HO21; clear BK19; clear HB; have HO21 := n0_; have HO26 := n1_; have BK19 := n2_; have HB := n3_; clear n0_ n1_ n2_ n3_; (try clear hb); (try clear hb2); (try clear hk); (try clear hi); (try clear ho0)))
  go_ret
  exact ⟨ze, zb⟩
 rw [if_neg c7] at H
 have c7b0 : (t22 == (t20.length : Int)) = false := beq_eq_false_iff_ne.mpr c7
 have c7b1 : (t22 != (t20.length : Int)) = true := bne_iff_ne.mpr c7
 obtain rfl := Option.some.inj H
 go_enter Try.func12, Try.ntmps12
 go_wp2_with (first | ((with_reducible refine gate_dst (N := 1) rfl ?_); refine box_event ?hg (N := 1) ?hd (cs := #[.slice A0_0 l0_0.length c0_0, .slice A0_1 l0_1.length c0_1]) (t := 27) ?hr ?_; (case hd => rfl); (case hg => rfl); (case hr => exact yf0); intro gb19 hg w13 hbox hb; have n0_ := Qz.mk (Qq zb hb); have n1_ := Qz.mk (hbox); have n2_ := Qz.mk ((zh hg : w.heap.size ≤ gb19)); have n3_ := n2_; clear HB; have HB := n0_; have BK19 := n1_; have GW19 := n2_; have GE19 := n3_; clear n0_ n1_ n2_ n3_; clear hb hbox hg; obtain ⟨z14_0, z14_1, j14_0, j14_1⟩ := Lv.blks2 BK19.out) | ((with_reducible refine gate_callee (f := 48) rfl ?_); refine Qat (some 15) rfl rfl Try.func48 (by kernel_rfl) rfl #[.agg #[.slice A0_0 l0_0.length c0_0, .slice A0_1 l0_1.length c0_1]] rfl zm ?_; (with_reducible refine (Zsl3All.calls _ _ l0_0 _ _ l0_1 t20 _ ?side1 ?side2 ?side3 ?side4 A5.out).mono ?_); (case side1 => exact zc (Kd.Qac HR0_0.out HB.out)); (case side2 => exact HC0_0.out); (case side3 => exact zc (Kd.Qac HR0_1.out HB.out)); (case side4 => exact HC0_1.out); rintro e w15 ⟨v24, rfl, ho0, hb⟩; refine ⟨_, rfl, ?_⟩; have n0_ := Qz.mk (Kd.Qan ho0 (Qp zb)); have n1_ := Qz.mk (Qi (g := gb19) (o := .cells #[.slice A0_0 l0_0.length c0_0, .slice A0_1 l0_1.length c0_1] 27 (0, 0)) zk hb); have n2_ := Qz.mk (Qq zb hb); clear BK19; clear HB; have HO21 := n0_; have BK19 := n1_; have HB := n2_; clear n0_ n1_ n2_; (try clear hb); (try clear hb2); (try clear hk); (try clear hi); (try clear ho0); obtain ⟨Ao16, co16, eo16⟩ := Kd.R_slice HO21.out; subst eo16) | ((with_reducible refine gate_callee (f := 49) rfl ?_); refine Qat (some 18) rfl rfl Try.func49 (by kernel_rfl) rfl #[.slice Ao16 t20.length co16] rfl zm ?_; (with_reducible refine (Zsl3Recs.calls k _ _ t20 t23 t22 _ ?side1 ?side2 A6.out).mono ?_); (case side1 => exact zc (Kd.Qaj HO21.out).2.2); (case side2 => exact (Kd.Qaj HO21.out).2.1); rintro e w17 ⟨v25, rfl, ho0, hb⟩; refine ⟨_, rfl, ?_⟩; have n0_ := Qz.mk (Kd.Qy (zr HO21) hb); have n1_ := Qz.mk (Kd.Qan ho0 (Qp zb)); have n2_ := Qz.mk (Qi (g := gb19) (o := .cells #[.slice A0_0 l0_0.length c0_0, .slice A0_1 l0_1.length c0_1] 27 (0, 0)) zk hb); have n3_ := Qz.mk (Qq zb hb); clear HO21; clear BK19; clear HB; have HO21 := n0_; have HO26 := n1_; have BK19 := n2_; have HB := n3_; clear n0_ n1_ n2_ n3_; (try clear hb); (try clear hb2); (try clear hk); (try clear hi); (try clear ho0)))
 go_ret
 exact ⟨ze, zb⟩
-- PROOF --
open Go.Shelf in
def ZcGrow_byte_lay_ren : Go.Shelf.Ren := ⟨fun | 4 => 92 | n => n, fun | 22 => 22 | 25 => 5 | 3 => 3 | 4 => 4 | 9 => 9 | 20 => 20 | 0 => 0 | n => n, fun | n => n⟩
open Go.Shelf in
theorem ZcGrow_byte_lay : Go.Proofs.Lays8.n4 Try.prog ZcGrow_byte_lay_ren := {
  mixed := by kernel_rfl
  f4 := ⟨Try.f92.name, by decide, Try.func92.trans (congrArg some (by kernel_rfl))⟩
  t0 := Try.underlying0
  a0 := Try.isAgg0
  z0 := Try.sizeOf0
  v0 := Try.zeroValue0
  t3 := Try.underlying3
  a3 := Try.isAgg3
  z3 := Try.sizeOf3
  v3 := Try.zeroValue3
  t4 := Try.underlying4
  a4 := Try.isAgg4
  z4 := Try.sizeOf4
  v4 := Try.zeroValue4
  t9 := Try.underlying9
  a9 := Try.isAgg9
  z9 := Try.sizeOf9
  v9 := Try.zeroValue9
  t20 := Try.underlying20
  a20 := Try.isAgg20
  z20 := Try.sizeOf20
  v20 := Try.zeroValue20
  t22 := Try.underlying22
  a22 := Try.isAgg22
  z22 := Try.sizeOf22
  v22 := Try.zeroValue22 }
set_option maxHeartbeats 8000000 in
set_option maxRecDepth 100000 in
theorem ZcGrow_byte.calls (P0_ : Nat → Prop) (u9000_ : Value) (l0 : List (Int)) (a1 : Int) (r : List (Int)) (w0 w : World) (hB : Below w0.heap.size w0 w) (ho0 : Kd.R (Kd.int .u8) 5 w w0.heap.size P0_ u9000_ l0) (h : ZcGrow_byte.f l0 a1 = some r) :
 Calls Try.prog 92 #[u9000_, .int .i64 a1] w fun e w' => ∃ v0_ : Value, e = .returned (v0_) ∧ Kd.R (Kd.int .u8) 5 w' w0.heap.size (fun k_ => (P0_ k_ ∨ w.heap.size ≤ k_)) v0_ r ∧ Below w0.heap.size w0 w' ∧ Kept w w' (fun k_ => P0_ k_) := by
 unfold ZcGrow_byte.f at h
 by_cases h1 : 0 ≤ a1
 case neg => rw [if_neg h1] at h; cases h
 by_cases h2 : l0.length + a1.toNat ≤ 140737488355328
 case neg => rw [if_pos h1, if_neg h2] at h; cases h
 rw [if_pos h1, if_pos h2] at h
 obtain rfl := Option.some.inj h
 obtain ⟨n, rfl⟩ : ∃ n : Nat, a1 = (n : Int) := ⟨a1.toNat, by omega⟩
 simp only [Int.toNat_natCast] at h2
 obtain ⟨i0, hi0, hz0, hzs, hzb⟩ := info_parts info5
 obtain ⟨hok, inner, ho, hr⟩ := ho0
 have hlt := hB.size
 have hc1 : (Kd.sz (Kd.int .u8)) = 1 := rfl
 rcases ho with ⟨hl, ⟨rfl, h0⟩ | ⟨g, cap, cur, rfl, hb, hh, hn, hm, hs, ht⟩⟩
 ·obtain rfl : l0 = [] := List.length_eq_zero_iff.1 h0
  by_cases h3 : n = 0
  ·subst h3
   refine (Any8.slices_Grow_room ZcGrow_byte_lay none 0 0 0 w (by omega) (by omega) (by omega) (by omega)).mono ?_
   rintro e w' ⟨rfl, rfl⟩
   exact ⟨_, rfl, Kd.R_nil _ _ _ _ _, hB, Kept.refl _ _⟩
  refine (Any8.slices_Grow_grow ZcGrow_byte_lay i0 _ hi0 hz0 (by omega) none 0 0 n [] w (by omega) (by omega) (by rw [hzb]; simpa using h2) (by omega) (by simp) (fun _ => rfl) (fun a ha => by cases ha)).mono ?_
  rintro e w' ⟨rfl, rfl⟩
  refine ⟨_, rfl, ⟨fun k hk => .inr (by simp [Value.ownBlock] at hk; omega), [], ⟨rfl, .inr ⟨w.heap.size, _, _, rfl, hlt, Go.heap_alloc_new w.drew _, Nat.zero_le _, grownCap_le_maxLen _ _ _ _ (by unfold maxLen; omega), ?_, rfl⟩⟩, Reps.none _ _⟩, Qc (below_drew hB) _, ((Kept.refl w _).drew).alloc _⟩
  simp [Builtin.zeroCells, Value.cells]
  rw [hc1]
  have := grownCap_ge w n 0 (ZcGrow_byte_lay_ren.t 25)
  omega
 ·by_cases h3 : l0.length + n ≤ cap
  ·refine (Any8.slices_Grow_room ZcGrow_byte_lay (some ⟨g, 0, none⟩) l0.length cap n w hn (by unfold maxLen at hm; omega) (by omega) h3).mono ?_
   rintro e w' ⟨rfl, rfl⟩
   exact ⟨_, rfl, Kd.Qw ⟨hok, inner, ⟨hl, .inr ⟨g, cap, cur, rfl, hb, hh, hn, hm, hs, ht⟩⟩, hr⟩ (fun _ hk => .inl hk), hB, Kept.refl _ _⟩
  refine (Any8.slices_Grow_grow ZcGrow_byte_lay i0 _ hi0 hz0 (by omega) (some ⟨g, 0, none⟩) l0.length cap n cur.toList w hn (by omega) (by rw [hzb]; simpa using h2) (by omega) (by rw [hzs]; simpa [hc1] using hs) (fun he => by cases he) (fun a ha j v hj => by
   obtain rfl := (Option.some.inj ha).symm
   have hj2 : cur[j]? = some v := by simpa using hj
   by_cases hj0 : j = 0
   ·subst hj0; simp [Addr.add, World.cell?, hh, hj2]
   simp [Addr.add, hj0, World.cell?, hh, hj2])).mono ?_
  rintro e w' ⟨rfl, rfl⟩
  refine ⟨_, rfl, ⟨fun k hk => .inr (by simp [Value.ownBlock] at hk; omega), inner, ⟨hl, .inr ⟨w.heap.size, _, _, rfl, hlt, Go.heap_alloc_new w.drew _, ?_, grownCap_le_maxLen _ _ _ _ (by unfold maxLen; omega), ?_, ?_⟩⟩, hr.imp_ (fun p c hp => hp)⟩, Qc (below_drew hB) _, ((Kept.refl w _).drew).alloc _⟩
  ·exact Nat.le_trans (Nat.le_add_right _ _) (grownCap_ge w (l0.length + n) cap _)
  ·simp [Builtin.zeroCells, Value.cells]
   rw [hs, hc1]
   have := grownCap_ge w (l0.length + n) cap (ZcGrow_byte_lay_ren.t 25)
   omega
  rw [hc1] at ht hs ⊢
  rw [← ht]
  simp only [Array.toList_append, List.append_assoc]
  rw [List.take_append_of_le_length (by simp; omega)]
set_option maxHeartbeats 8000000 in
set_option maxRecDepth 100000 in
theorem ZcConcat_byte.calls (k : Nat) (A0 : Option Addr) (c0 : Nat) (l0 : List (List Int)) (r : List Int) (w : World) (hr0 : Kd.C (Kd.slice 5 (Kd.int .u8)) w A0 l0.length l0) (hc0 : l0.length ≤ c0) (h : ZcConcat_byte.f k l0 = some r) :
 Calls Try.prog 77 #[.slice A0 l0.length c0] w fun e w' => ∃ v0_ : Value, e = .returned (v0_) ∧ Kd.R (Kd.int .u8) 5 w' w.heap.size (fun _ => True) v0_ r ∧ Below w.heap.size w w' := by
 have HR0 := Qz.mk hr0
 have HC0 := Qz.mk hc0
 clear hr0 hc0
 have HB := Qz.mk (Below.refl w.heap.size w)
 have H : (ZcConcat_byte.l0 k l0 0 l0 (l0.length : Int) 0) = some r := h
 clear h
 have H' := Qz.mk H
 clear H
 go_enter Try.func77, Try.ntmps77
 go_wp2
 go_loopg [3, 11] k (fun kq v3 v11 w' => ∃ (x3_1 : Int) (x11_1 : Int), v3 = .int .i64 x3_1 ∧ v11 = .int .i64 x11_1 ∧ Qz (ZcConcat_byte.l0 kq l0 x3_1 l0 (l0.length : Int) x11_1 = some r) ∧ Qz (kq ≤ k) ∧ Qz (Below w.heap.size w w'))
 case atStart => exact ⟨(0), (0), zs, zs, H', ⟨Nat.le_refl _⟩, ⟨zb⟩⟩
 case round =>
  clear H'
  obtain ⟨x3_1, x11_1, rfl, rfl, HA, HK1, HB⟩ := hrel
  cases gk with
  | zero => exact absurd HA.out (by simp [ZcConcat_byte.l0])
  | succ k1 =>
   have H := HA.out
   clear HA
   simp only [ZcConcat_byte.l0] at H
   by_cases c2 : x11_1 < (l0.length : Int)
   ·rw [if_pos c2] at H
    have c2b0 : decide (x11_1 < (l0.length : Int)) = true := decide_eq_true c2
    clear c2
    by_cases c3 : 0 ≤ x11_1
    ·rw [if_pos c3] at H
     have c3b0 : decide (0 ≤ x11_1) = true := decide_eq_true c3
     clear c3
     by_cases c4 : x11_1 < (l0.length : Int)
     ·rw [if_pos c4] at H
      have c4b0 : decide (x11_1 < (l0.length : Int)) = true := decide_eq_true c4
      clear c4
      by_cases c5 : (wrap64 (x3_1 + ((rd_L4 l0 x11_1).length : Int))) < 0
      ·rw [if_pos c5] at H
       exact absurd H (by simp)
      rw [if_neg c5] at H
      have c5b0 : decide ((wrap64 (x3_1 + ((rd_L4 l0 x11_1).length : Int))) < 0) = false := decide_eq_false c5
      clear c5
      have H' := Qz.mk H
      clear H
      have p219 : 0 ≤ (x11_1 : Int) := of_decide_eq_true za
      have q13 : x11_1 < (l0.length : Int) := of_decide_eq_true za
      obtain ⟨ad13, A13_0, c13_0, e219, hx13_0, hl13_0, hi219_0⟩ := at_L4 HR0.out x11_1 p219 q13
      cases e219
      replace hx13_0 := zx HB hx13_0
      have HR219_0 := Qz.mk hi219_0
      have HC219_0 := Qz.mk hl13_0
      clear hi219_0 hl13_0
      replace p219 := eq_true p219
      replace q13 := eq_true q13
      go_wp2
      go_roundg k1
      case measure => have := HK1.out; omega
      case rel => exact ⟨(wrap64 (x3_1 + ((rd_L4 l0 x11_1).length : Int))), (wrap64 (x11_1 + 1)), zs, zs, H', ⟨by have := HK1.out; omega⟩, ⟨zb⟩⟩
     rw [if_neg c4] at H
     exact absurd H (by simp)
    rw [if_neg c3] at H
    exact absurd H (by simp)
   rw [if_neg c2] at H
   have c2b0 : decide (x11_1 < (l0.length : Int)) = false := decide_eq_false c2
   clear c2
   replace H := Option.bind_eq_some_iff.mp H
   obtain ⟨t16, A60, H⟩ := H
   replace H : (ZcConcat_byte.l1 k1 t16 l0 (l0.length : Int) 0) = some r := H
   have A6 := Qz.mk A60
   clear A60
   have H' := Qz.mk H
   clear H
   go_wp2_with (first | ((with_reducible refine gate_callee (f := 92) rfl ?_); refine Qat (some 24) rfl rfl Try.func92 (by kernel_rfl) rfl #[.slice none 0 0, .int .i64 x3_1] rfl zm ?_; (refine (ZcGrow_byte.calls (fun k_ => some k_ = (.slice none 0 0 : Value).ownBlock) (.slice none 0 0) ([] : List Int) x3_1 t16 w _ ?side1 ?side2 A6.out).mono ?_); (case side1 => repeat (first | (with_reducible first | exact HB.out | apply Qc | apply Qa | apply Qb) | exact HB.out)); (case side2 => exact Kd.R_nil _ _ _ _ _); rintro e w7 ⟨v19, rfl, ho0, hb, hkp⟩; refine ⟨_, rfl, ?_⟩; have n0_ := Qz.mk (Kd.Qw (ok' := fun k_ => True) ho0 (fun k_ hk_ => trivial)); have n1_ := Qz.mk (hb); clear HB; have HO17 := n0_; have HB := n1_; clear n0_ n1_; (try clear hb); (try clear hkp); (try clear ho0)))
   go_loopg [6, 27] k1 (fun kq v6 v27 w' => ∃ (x6_2 : List Int) (x27_2 : Int), v27 = .int .i64 x27_2 ∧ Qz (ZcConcat_byte.l1 kq x6_2 l0 (l0.length : Int) x27_2 = some r) ∧ Qz (kq ≤ k1) ∧ Qz (Kd.R (Kd.int .u8) 5 w' w.heap.size (fun _ => True) v6 x6_2) ∧ Qz (Below w.heap.size w w'))
   case atStart => exact ⟨(t16), (0), zs, H', ⟨Nat.le_refl _⟩, ⟨zr HO17⟩, ⟨zb⟩⟩
   case round =>
    clear H'
    try clear c2
    try clear c2b0
    try clear p2
    try clear q2
    try clear hx2
    try clear c3
    try clear c3b0
    try clear c4
    try clear c4b0
    try clear c5
    try clear c5b0
    try clear p6
    try clear c7
    try clear hx13_0
    try clear p219
    try clear q13
    obtain ⟨x6_2, x27_2, rfl, HA, HK2, HO_6, HB⟩ := hrel
    cases gk with
    | zero => exact absurd HA.out (by simp [ZcConcat_byte.l1])
    | succ k2 =>
     have H := HA.out
     clear HA
     simp only [ZcConcat_byte.l1] at H
     by_cases c8 : x27_2 < (l0.length : Int)
     ·rw [if_pos c8] at H
      have c8b0 : decide (x27_2 < (l0.length : Int)) = true := decide_eq_true c8
      clear c8
      by_cases c9 : 0 ≤ x27_2
      ·rw [if_pos c9] at H
       have c9b0 : decide (0 ≤ x27_2) = true := decide_eq_true c9
       clear c9
       by_cases c10 : x27_2 < (l0.length : Int)
       ·rw [if_pos c10] at H
        have c10b0 : decide (x27_2 < (l0.length : Int)) = true := decide_eq_true c10
        clear c10
        by_cases c11 : x6_2.length + (rd_L4 l0 x27_2).length < 140737488355328
        ·rw [if_pos c11] at H
         have LMc11 := Qz.mk c11
         clear c11
         obtain ⟨y15, hy15⟩ : ∃ y_ : List Int, y_ = (x6_2 ++ (rd_L4 l0 x27_2)) := ⟨_, rfl⟩
         replace H : (ZcConcat_byte.l1 k2 y15 l0 (l0.length : Int) (wrap64 (x27_2 + 1))) = some r := by first | (rw [hy15]; with_reducible exact H) | (have H2_ := (Option.bind_some _ _).symm.trans H; rw [hy15]; with_reducible exact H2_) | (have H2_ := (Option.bind_some _ _).symm.trans H; with_reducible exact H2_) | with_reducible exact H | (rw [hy15]; exact H) | exact H
         have Ny15 := Qz.mk hy15
         clear hy15
         have H' := Qz.mk H
         clear H
         have p223 : 0 ≤ (x27_2 : Int) := of_decide_eq_true za
         have q14 : x27_2 < (l0.length : Int) := of_decide_eq_true za
         obtain ⟨ad14, A14_0, c14_0, e223, hx14_0, hl14_0, hi223_0⟩ := at_L4 HR0.out x27_2 p223 q14
         cases e223
         replace hx14_0 := zx HB hx14_0
         have HR223_0 := Qz.mk hi223_0
         have HC223_0 := Qz.mk hl14_0
         clear hi223_0 hl14_0
         replace p223 := eq_true p223
         replace q14 := eq_true q14
         go_wp2_with (first | ((with_reducible refine gate_builtin (b := .append) (xs := #[.tmp 31, .tmp 32]) rfl ?_); at_builtin; refine Kd.R_append_rows (Kd.int .u8) (w0 := w) w.heap.size rfl (.tmp 31) (.tmp 32) 22 5 (.int .u8 0) 1 rfl Try.underlying22 info5 rfl (by decide) (by omega) u6 x6_2 (rd_L4 l0 x27_2) _ _ _ (fun _ => True) (fun _ => False) rfl rfl ?aO ?aR (fun _ _ h => h) (fun _ h => h.elim) ?aF ?aB ?aS ?aL ?_; (case aR => repeat (first | exact (Kd.Qac HR223_0.out HB.out) | (with_reducible first | refine Kd.Qaa ?_ _ | refine Kd.Qz ?_ _ | refine Kd.Qab ?_))); (case aB => exact zb); (case aF => exact (fun _ _ => trivial)); (case aO => exact (zr HO_6)); (case aS => exact (Qp zb)); (case aL => have := LMc11.out; omega); intro v20 w12 ho hb hg hat; rw [← Ny15.out] at ho; have n0_ := Qz.mk (hb); have n1_ := Qz.mk (ho); clear HB; clear HO_6; have HB := n0_; have HO18 := n1_; clear n0_ n1_; clear ho hb hg hat))
         go_roundg k2
         case measure => have := HK1.out; have := HK2.out; omega
         case rel => exact ⟨(y15), (wrap64 (x27_2 + 1)), zs, H', ⟨by have := HK1.out; have := HK2.out; omega⟩, ⟨zr HO18⟩, ⟨zb⟩⟩
        rw [if_neg c11] at H
        exact absurd H (by simp)
       rw [if_neg c10] at H
       exact absurd H (by simp)
      rw [if_neg c9] at H
      exact absurd H (by simp)
     rw [if_neg c8] at H
     have c8b0 : decide (x27_2 < (l0.length : Int)) = false := decide_eq_false c8
     clear c8
     obtain rfl := Option.some.inj H
     go_wp2
     go_ret
     exact ⟨_, ze, by refine zR ?_; exact HO_6.out, zb⟩
set_option maxHeartbeats 8000000 in
set_option maxRecDepth 100000 in
theorem ZiLog_all.calls (k : Nat) (P0_0_ : Nat → Prop) (A0_0 : Option Addr) (c0_0 : Nat) (l0_0 : List Int) (P0_1_ : Nat → Prop) (A0_1 : Option Addr) (c0_1 : Nat) (l0_1 : List Int) (r : List Int) (w : World) (hs0_0 : Kd.V (Kd.int .u8) 5 w w.heap.size (fun k_ => P0_0_ k_) (.slice A0_0 l0_0.length c0_0) l0_0) (hs0_1 : Kd.V (Kd.int .u8) 5 w w.heap.size (fun k_ => P0_1_ k_) (.slice A0_1 l0_1.length c0_1) l0_1) (h : ZiLog_all.f k l0_0 l0_1 = some r) :
 Calls Try.prog 50 #[.agg #[.slice A0_0 l0_0.length c0_0, .slice A0_1 l0_1.length c0_1]] w fun e w' => ∃ v0_ : Value, e = .returned (v0_) ∧ Kd.R (Kd.int .u8) 5 w' w.heap.size (fun k_ => (w.heap.size ≤ k_)) v0_ r ∧ Below w.heap.size w w' := by
 have hu27 := Try.underlying27
 have HO0_0 := Qz.mk (show Kd.V (Kd.int .u8) 5 w w.heap.size (fun k_ => ((P0_0_ k_ ∨ P0_1_ k_) ∨ w.heap.size ≤ k_)) (.slice A0_0 l0_0.length c0_0) l0_0 from Kd.Qae hs0_0 (fun k_ hk => .inl (.inl hk)))
 have HO0_1 := Qz.mk (show Kd.V (Kd.int .u8) 5 w w.heap.size (fun k_ => ((P0_0_ k_ ∨ P0_1_ k_) ∨ w.heap.size ≤ k_)) (.slice A0_1 l0_1.length c0_1) l0_1 from Kd.Qae hs0_1 (fun k_ hk => .inl (.inr hk)))
 have HB := Qz.mk (Below.refl w.heap.size w)
 have H : ((ZcConcat_byte.f k (([l0_0, l0_1] : List (List Int)))).bind fun t11 => (some t11)) = some r := h
 clear h
 obtain ⟨y10, hy10⟩ : ∃ y_ : List (List Int), y_ = (([l0_0, l0_1] : List (List Int))) := ⟨_, rfl⟩
 replace H : ((ZcConcat_byte.f k y10).bind fun t11 => (some t11)) = some r := by first | (rw [hy10]; with_reducible exact H) | (have H2_ := (Option.bind_some _ _).symm.trans H; rw [hy10]; with_reducible exact H2_) | (have H2_ := (Option.bind_some _ _).symm.trans H; with_reducible exact H2_) | with_reducible exact H | (rw [hy10]; exact H) | exact H
 have Ny10 := Qz.mk hy10
 clear hy10
 replace H := Option.bind_eq_some_iff.mp H
 obtain ⟨t11, A20, H⟩ := H
 replace H : (some t11) = some r := H
 have A2 := Qz.mk A20
 clear A20
 obtain rfl := Option.some.inj H
 go_enter Try.func50, Try.ntmps50
 go_wp2_with (first | ((with_reducible refine gate_dst (N := 1) rfl ?_); refine box_event ?hg (N := 1) ?hd (cs := #[.slice A0_0 l0_0.length c0_0, .slice A0_1 l0_1.length c0_1]) (t := 27) ?hr ?_; (case hd => rfl); (case hg => rfl); (case hr => exact yf0); intro gb9 hg w3 hbox hb; have n0_ := Qz.mk (Kd.Qaf (Kd.Qag (zv HO0_0) gb9 (Nat.le_of_eq hg.symm)) hb); have n1_ := Qz.mk (Kd.Qaf (Kd.Qag (zv HO0_1) gb9 (Nat.le_of_eq hg.symm)) hb); have n2_ := Qz.mk (Qq zb hb); have n3_ := Qz.mk (hbox); have n4_ := Qz.mk ((zh hg : w.heap.size ≤ gb9)); have n5_ := n4_; clear HO0_0; clear HO0_1; clear HB; have HO0_0 := n0_; have HO0_1 := n1_; have HB := n2_; have BK9 := n3_; have GW9 := n4_; have GE9 := n5_; clear n0_ n1_ n2_ n3_ n4_ n5_; clear hb hbox hg; obtain ⟨z4_0, z4_1, j4_0, j4_1⟩ := Lv.blks2 BK9.out) | ((with_reducible refine gate_dst (N := 7) rfl ?_); refine Kd.N_lit (Kd.slice 5 (Kd.int .u8)) _ 22 ?hg (N' := 7) ?hd (xs := ([l0_0, l0_1] : List (List Int))) (inner := [.slice A0_0 l0_0.length c0_0, .slice A0_1 l0_1.length c0_1]) (ok := (fun k_ => ((P0_0_ k_ ∨ P0_1_ k_) ∨ w.heap.size ≤ k_) ∧ k_ ≠ gb9)) (okp := (fun k_ => ((P0_0_ k_ ∨ P0_1_ k_) ∨ w.heap.size ≤ k_) ∧ k_ ≠ gb9)) ?hr ?hp (fun _ hk => hk) ((show ∀ k_, w3.heap.size ≤ k_ → (fun k_ => ((P0_0_ k_ ∨ P0_1_ k_) ∨ w.heap.size ≤ k_) ∧ k_ ≠ gb9) k_ from fun k_ hk => ⟨(.inr (Nat.le_trans (Qp zb) hk)), Kd.freshB (g := gb9) (o := .cells #[.slice A0_0 l0_0.length c0_0, .slice A0_1 l0_1.length c0_1] 27 (0, 0)) zk k_ hk⟩) _ (Nat.le_refl _)) (Below.refl _ _) (Nat.le_refl _) (by simp) ?_; (case hd => rfl); (case hg => rfl); (case hr => exact yf0); (case hp => exact (Reps.one (show Kd.FK (Kd.slice 5 (Kd.int .u8)) _ _ l0_0 [.slice A0_0 l0_0.length c0_0] from (Kd.FK_slice_mk (Kd.Qak (Kd.Qae (ok' := (fun k_ => ((P0_0_ k_ ∨ P0_1_ k_) ∨ w.heap.size ≤ k_) ∧ k_ ≠ gb9)) (HO0_0.out) (fun k_ hk => ⟨hk.1, hk.2⟩))).2.1 (Kd.V_F (Kd.Qae (ok' := (fun k_ => ((P0_0_ k_ ∨ P0_1_ k_) ∨ w.heap.size ≤ k_) ∧ k_ ≠ gb9)) (HO0_0.out) (fun k_ hk => ⟨hk.1, hk.2⟩))))) (Reps.one (show Kd.FK (Kd.slice 5 (Kd.int .u8)) _ _ l0_1 [.slice A0_1 l0_1.length c0_1] from (Kd.FK_slice_mk (Kd.Qak (Kd.Qae (ok' := (fun k_ => ((P0_0_ k_ ∨ P0_1_ k_) ∨ w.heap.size ≤ k_) ∧ k_ ≠ gb9)) (HO0_1.out) (fun k_ hk => ⟨hk.1, hk.2⟩))).2.1 (Kd.V_F (Kd.Qae (ok' := (fun k_ => ((P0_0_ k_ ∨ P0_1_ k_) ∨ w.heap.size ≤ k_) ∧ k_ ≠ gb9)) (HO0_1.out) (fun k_ hk => ⟨hk.1, hk.2⟩))))) (Reps.none _ _)))); intro v14 w5 ho6 hb hg_ hnew_; clear hg_ hnew_; (first | rw [← Ny10.out] at ho6 | (simp only [Int.reduceToNat] at ho6; rw [← Ny10.out] at ho6)); have n0_ := Qz.mk (Kd.V_elder' (zv HO0_0) (Kd.N_base ho6) hb); have n1_ := Qz.mk (Kd.V_elder' (zv HO0_1) (Kd.N_base ho6) hb); have n2_ := Qz.mk (Kd.N_lower ho6 (Qp zb)); have n3_ := Qz.mk (Qi (g := gb9) (o := .cells #[.slice A0_0 l0_0.length c0_0, .slice A0_1 l0_1.length c0_1] 27 (0, 0)) zk hb); have n4_ := Qz.mk (Qq zb hb); clear HO0_0; clear HO0_1; clear BK9; clear HB; have HO0_0 := n0_; have HO0_1 := n1_; have HO12 := n2_; have BK9 := n3_; have HB := n4_; clear n0_ n1_ n2_ n3_ n4_; clear hb ho6; obtain ⟨Ao7, co7, eo7⟩ := Kd.N_slice HO12.out; subst eo7) | ((with_reducible refine gate_callee (f := 77) rfl ?_); refine Qat (some 8) rfl rfl Try.func77 (by kernel_rfl) rfl #[.slice Ao7 y10.length co7] rfl zm ?_; (with_reducible refine (ZcConcat_byte.calls k _ _ y10 t11 _ ?side1 ?side2 A2.out).mono ?_); (case side1 => exact zc (Kd.N_reads' HO12.out).2.2); (case side2 => exact (Kd.N_reads' HO12.out).2.1); rintro e w8 ⟨v15, rfl, ho0, hb⟩; refine ⟨_, rfl, ?_⟩; have n0_ := Qz.mk (Kd.V_elder' (zv HO0_0) (Kd.Qah ho0) hb); have n1_ := Qz.mk (Kd.V_elder' (zv HO0_1) (Kd.Qah ho0) hb); have n2_ := Qz.mk (Kd.N_elder' (by (with_reducible repeat (first | apply Kd.N_alloc | apply Kd.N_drewN | apply Kd.N_drew)); exact HO12.out) (Kd.Qah ho0) hb); have n3_ := Qz.mk (Kd.Qan (Kd.R_newM (M := fun k_ => (w.heap.size ≤ k_)) ho0 (Qp zb) (fun k_ h_ => h_)) (Qp zb)); have n4_ := Qz.mk (Qi (g := gb9) (o := .cells #[.slice A0_0 l0_0.length c0_0, .slice A0_1 l0_1.length c0_1] 27 (0, 0)) zk hb); have n5_ := Qz.mk (Qq zb hb); clear HO0_0; clear HO0_1; clear HO12; clear BK9; clear HB; have HO0_0 := n0_; have HO0_1 := n1_; have HO12 := n2_; have HO13 := n3_; have BK9 := n4_; have HB := n5_; clear n0_ n1_ n2_ n3_ n4_ n5_; (try clear hb); (try clear hb2); (try clear hk); (try clear hi); (try clear ho0)))
 go_ret
 exact ⟨_, ze, by refine zR ?_; exact Kd.Qw HO13.out (fun _ hk => hk.1), zb⟩
set_option maxHeartbeats 8000000 in
set_option maxRecDepth 100000 in
theorem ZiLogFault.calls (k : Nat) (A0_0 : Option Addr) (c0_0 : Nat) (l0_0 : List Int) (A0_1 : Option Addr) (c0_1 : Nat) (l0_1 : List Int) (r : Int) (w : World) (hr0_0 : Kd.C (Kd.int .u8) w A0_0 l0_0.length l0_0) (hc0_0 : l0_0.length ≤ c0_0) (hr0_1 : Kd.C (Kd.int .u8) w A0_1 l0_1.length l0_1) (hc0_1 : l0_1.length ≤ c0_1) (h : ZiLogFault.f k l0_0 l0_1 = some r) :
 Calls Try.prog 14 #[.agg #[.slice A0_0 l0_0.length c0_0, .slice A0_1 l0_1.length c0_1]] w fun e w' => e = .returned (.int .i64 r) ∧ Below w.heap.size w w' := by
 have hu27 := Try.underlying27
 have HR0_0 := Qz.mk hr0_0
 have HC0_0 := Qz.mk hc0_0
 clear hr0_0 hc0_0
 have HR0_1 := Qz.mk hr0_1
 have HC0_1 := Qz.mk hc0_1
 clear hr0_1 hc0_1
 have HB := Qz.mk (Below.refl w.heap.size w)
 have H : ((ZiLog_all.f k l0_0 l0_1).bind fun t23 => (if (t23.length : Int) > 4000 then (some 2) else ((Ziunpack.f k t23).bind fun t25 => (if (wrap64 (13 * (t25.length : Int))) = (t23.length : Int) then (some 0) else (some 5))))) = some r := h
 clear h
 replace H := Option.bind_eq_some_iff.mp H
 obtain ⟨t23, A20, H⟩ := H
 replace H : (if (t23.length : Int) > 4000 then (some 2) else ((Ziunpack.f k t23).bind fun t25 => (if (wrap64 (13 * (t25.length : Int))) = (t23.length : Int) then (some 0) else (some 5)))) = some r := H
 have A2 := Qz.mk A20
 clear A20
 by_cases c3 : (t23.length : Int) > 4000
 ·rw [if_pos c3] at H
  have c3b0 : decide (4000 < (t23.length : Int)) = true := decide_eq_true c3
  have c3b1 : decide (4000 < t23.length) = true := decide_eq_true (by omega)
  clear c3
  obtain rfl := Option.some.inj H
  go_enter Try.func14, Try.ntmps14
  go_wp2_with (first | ((with_reducible refine gate_dst (N := 1) rfl ?_); refine box_event ?hg (N := 1) ?hd (cs := #[.slice A0_0 l0_0.length c0_0, .slice A0_1 l0_1.length c0_1]) (t := 27) ?hr ?_; (case hd => rfl); (case hg => rfl); (case hr => exact yf0); intro gb22 hg w4 hbox hb; have n0_ := Qz.mk (Qq zb hb); have n1_ := Qz.mk (hbox); have n2_ := Qz.mk ((zh hg : w.heap.size ≤ gb22)); have n3_ := n2_; clear HB; have HB := n0_; have BK22 := n1_; have GW22 := n2_; have GE22 := n3_; clear n0_ n1_ n2_ n3_; clear hb hbox hg; obtain ⟨z5_0, z5_1, j5_0, j5_1⟩ := Lv.blks2 BK22.out) | ((with_reducible refine gate_callee (f := 50) rfl ?_); refine Qat (some 5) rfl rfl Try.func50 (by kernel_rfl) rfl #[.agg #[.slice A0_0 l0_0.length c0_0, .slice A0_1 l0_1.length c0_1]] rfl zm ?_; (with_reducible refine (ZiLog_all.calls k (fun k_ => k_ < w.heap.size) _ _ l0_0 (fun k_ => k_ < w.heap.size) _ _ l0_1 t23 _ ?side1 ?side2 A2.out).mono ?_); (case side1 => exact Kd.V_mk HC0_0.out (Kd.F_below (Kd.C_F (Kd.heap_int .u8) HR0_0.out) zb)); (case side2 => exact Kd.V_mk HC0_1.out (Kd.F_below (Kd.C_F (Kd.heap_int .u8) HR0_1.out) zb)); rintro e w6 ⟨v28, rfl, ho0, hb⟩; refine ⟨_, rfl, ?_⟩; have n0_ := Qz.mk (Kd.Qan (Kd.Qw (ok' := fun k_ => True) ho0 (fun _ hk_ => trivial)) (Qp zb)); have n1_ := Qz.mk (Qi (g := gb22) (o := .cells #[.slice A0_0 l0_0.length c0_0, .slice A0_1 l0_1.length c0_1] 27 (0, 0)) zk hb); have n2_ := Qz.mk (Qq zb hb); clear BK22; clear HB; have HO24 := n0_; have BK22 := n1_; have HB := n2_; clear n0_ n1_ n2_; (try clear hb); (try clear hb2); (try clear hk); (try clear hi); (try clear ho0); obtain ⟨Ao7, co7, eo7⟩ := Kd.R_slice HO24.out; subst eo7))
  go_ret
  exact ⟨ze, zb⟩
 rw [if_neg c3] at H
 have c3b0 : decide (4000 < (t23.length : Int)) = false := decide_eq_false c3
 have c3b1 : decide (4000 < t23.length) = false := decide_eq_false (by omega)
 clear c3
 replace H := Option.bind_eq_some_iff.mp H
 obtain ⟨t25, A80, H⟩ := H
 replace H : (if (wrap64 (13 * (t25.length : Int))) = (t23.length : Int) then (some 0) else (some 5)) = some r := H
 have A8 := Qz.mk A80
 clear A80
 by_cases c9 : (wrap64 (13 * (t25.length : Int))) = (t23.length : Int)
 ·rw [if_pos c9] at H
  have c9b0 : ((wrap64 (13 * (t25.length : Int))) == (t23.length : Int)) = true := beq_iff_eq.mpr c9
  have c9b1 : ((wrap64 (13 * (t25.length : Int))) != (t23.length : Int)) = false := bne_eq_false_iff_eq.mpr c9
  clear c9
  obtain rfl := Option.some.inj H
  go_enter Try.func14, Try.ntmps14
  go_wp2_with (first | ((with_reducible refine gate_dst (N := 1) rfl ?_); refine box_event ?hg (N := 1) ?hd (cs := #[.slice A0_0 l0_0.length c0_0, .slice A0_1 l0_1.length c0_1]) (t := 27) ?hr ?_; (case hd => rfl); (case hg => rfl); (case hr => exact yf0); intro gb22 hg w10 hbox hb; have n0_ := Qz.mk (Qq zb hb); have n1_ := Qz.mk (hbox); have n2_ := Qz.mk ((zh hg : w.heap.size ≤ gb22)); have n3_ := n2_; clear HB; have HB := n0_; have BK22 := n1_; have GW22 := n2_; have GE22 := n3_; clear n0_ n1_ n2_ n3_; clear hb hbox hg; obtain ⟨z11_0, z11_1, j11_0, j11_1⟩ := Lv.blks2 BK22.out) | ((with_reducible refine gate_callee (f := 50) rfl ?_); refine Qat (some 5) rfl rfl Try.func50 (by kernel_rfl) rfl #[.agg #[.slice A0_0 l0_0.length c0_0, .slice A0_1 l0_1.length c0_1]] rfl zm ?_; (with_reducible refine (ZiLog_all.calls k (fun k_ => k_ < w.heap.size) _ _ l0_0 (fun k_ => k_ < w.heap.size) _ _ l0_1 t23 _ ?side1 ?side2 A2.out).mono ?_); (case side1 => exact Kd.V_mk HC0_0.out (Kd.F_below (Kd.C_F (Kd.heap_int .u8) HR0_0.out) zb)); (case side2 => exact Kd.V_mk HC0_1.out (Kd.F_below (Kd.C_F (Kd.heap_int .u8) HR0_1.out) zb)); rintro e w12 ⟨v28, rfl, ho0, hb⟩; refine ⟨_, rfl, ?_⟩; have n0_ := Qz.mk (Kd.Qan (Kd.Qw (ok' := fun k_ => True) ho0 (fun _ hk_ => trivial)) (Qp zb)); have n1_ := Qz.mk (Qi (g := gb22) (o := .cells #[.slice A0_0 l0_0.length c0_0, .slice A0_1 l0_1.length c0_1] 27 (0, 0)) zk hb); have n2_ := Qz.mk (Qq zb hb); clear BK22; clear HB; have HO24 := n0_; have BK22 := n1_; have HB := n2_; clear n0_ n1_ n2_; (try clear hb); (try clear hb2); (try clear hk); (try clear hi); (try clear ho0); obtain ⟨Ao13, co13, eo13⟩ := Kd.R_slice HO24.out; subst eo13) | ((with_reducible refine gate_callee (f := 51) rfl ?_); refine Qat (some 12) rfl rfl Try.func51 (by kernel_rfl) rfl #[.slice Ao13 t23.length co13] rfl zm ?_; (with_reducible refine (Ziunpack.calls k (fun k_ => some k_ = (.slice Ao13 t23.length co13 : Value).ownBlock) _ _ t23 t25 _ ?side1 A8.out).mono ?_); (case side1 => exact Kd.R_V (Kd.R_tight rfl (Kd.Qai (HO24.out) BK22.out (by decide)))); rintro e w14 ⟨v29, rfl, ho0, hb⟩; refine ⟨_, rfl, ?_⟩; have n0_ := Qz.mk (Kd.Qy (zr HO24) hb); have n1_ := Qz.mk (Kd.Qan (Kd.Qw (ok' := fun k_ => True) ho0 (fun _ hk_ => trivial)) (Qp zb)); have n2_ := Qz.mk (Qi (g := gb22) (o := .cells #[.slice A0_0 l0_0.length c0_0, .slice A0_1 l0_1.length c0_1] 27 (0, 0)) zk hb); have n3_ := Qz.mk (Qq zb hb); clear HO24; clear BK22; clear HB; have HO24 := n0_; have HO26 := n1_; have BK22 := n2_; have HB := n3_; clear n0_ n1_ n2_ n3_; (try clear hb); (try clear hb2); (try clear hk); (try clear hi); (try clear ho0); obtain ⟨Ao15, co15, eo15⟩ := Kd.R_slice HO26.out; subst eo15))
  go_ret
  exact ⟨ze, zb⟩
 rw [if_neg c9] at H
 have c9b0 : ((wrap64 (13 * (t25.length : Int))) == (t23.length : Int)) = false := beq_eq_false_iff_ne.mpr c9
 have c9b1 : ((wrap64 (13 * (t25.length : Int))) != (t23.length : Int)) = true := bne_iff_ne.mpr c9
 obtain rfl := Option.some.inj H
 go_enter Try.func14, Try.ntmps14
 go_wp2_with (first | ((with_reducible refine gate_dst (N := 1) rfl ?_); refine box_event ?hg (N := 1) ?hd (cs := #[.slice A0_0 l0_0.length c0_0, .slice A0_1 l0_1.length c0_1]) (t := 27) ?hr ?_; (case hd => rfl); (case hg => rfl); (case hr => exact yf0); intro gb22 hg w16 hbox hb; have n0_ := Qz.mk (Qq zb hb); have n1_ := Qz.mk (hbox); have n2_ := Qz.mk ((zh hg : w.heap.size ≤ gb22)); have n3_ := n2_; clear HB; have HB := n0_; have BK22 := n1_; have GW22 := n2_; have GE22 := n3_; clear n0_ n1_ n2_ n3_; clear hb hbox hg; obtain ⟨z17_0, z17_1, j17_0, j17_1⟩ := Lv.blks2 BK22.out) | ((with_reducible refine gate_callee (f := 50) rfl ?_); refine Qat (some 5) rfl rfl Try.func50 (by kernel_rfl) rfl #[.agg #[.slice A0_0 l0_0.length c0_0, .slice A0_1 l0_1.length c0_1]] rfl zm ?_; (with_reducible refine (ZiLog_all.calls k (fun k_ => k_ < w.heap.size) _ _ l0_0 (fun k_ => k_ < w.heap.size) _ _ l0_1 t23 _ ?side1 ?side2 A2.out).mono ?_); (case side1 => exact Kd.V_mk HC0_0.out (Kd.F_below (Kd.C_F (Kd.heap_int .u8) HR0_0.out) zb)); (case side2 => exact Kd.V_mk HC0_1.out (Kd.F_below (Kd.C_F (Kd.heap_int .u8) HR0_1.out) zb)); rintro e w18 ⟨v28, rfl, ho0, hb⟩; refine ⟨_, rfl, ?_⟩; have n0_ := Qz.mk (Kd.Qan (Kd.Qw (ok' := fun k_ => True) ho0 (fun _ hk_ => trivial)) (Qp zb)); have n1_ := Qz.mk (Qi (g := gb22) (o := .cells #[.slice A0_0 l0_0.length c0_0, .slice A0_1 l0_1.length c0_1] 27 (0, 0)) zk hb); have n2_ := Qz.mk (Qq zb hb); clear BK22; clear HB; have HO24 := n0_; have BK22 := n1_; have HB := n2_; clear n0_ n1_ n2_; (try clear hb); (try clear hb2); (try clear hk); (try clear hi); (try clear ho0); obtain ⟨Ao19, co19, eo19⟩ := Kd.R_slice HO24.out; subst eo19) | ((with_reducible refine gate_callee (f := 51) rfl ?_); refine Qat (some 12) rfl rfl Try.func51 (by kernel_rfl) rfl #[.slice Ao19 t23.length co19] rfl zm ?_; (with_reducible refine (Ziunpack.calls k (fun k_ => some k_ = (.slice Ao19 t23.length co19 : Value).ownBlock) _ _ t23 t25 _ ?side1 A8.out).mono ?_); (case side1 => exact Kd.R_V (Kd.R_tight rfl (Kd.Qai (HO24.out) BK22.out (by decide)))); rintro e w20 ⟨v29, rfl, ho0, hb⟩; refine ⟨_, rfl, ?_⟩; have n0_ := Qz.mk (Kd.Qy (zr HO24) hb); have n1_ := Qz.mk (Kd.Qan (Kd.Qw (ok' := fun k_ => True) ho0 (fun _ hk_ => trivial)) (Qp zb)); have n2_ := Qz.mk (Qi (g := gb22) (o := .cells #[.slice A0_0 l0_0.length c0_0, .slice A0_1 l0_1.length c0_1] 27 (0, 0)) zk hb); have n3_ := Qz.mk (Qq zb hb); clear HO24; clear BK22; clear HB; have HO24 := n0_; have HO26 := n1_; have BK22 := n2_; have HB := n3_; clear n0_ n1_ n2_ n3_; (try clear hb); (try clear hb2); (try clear hk); (try clear hi); (try clear ho0); obtain ⟨Ao21, co21, eo21⟩ := Kd.R_slice HO26.out; subst eo21))
 go_ret
 exact ⟨ze, zb⟩
end Go.Proofs.Ythagppmaofcllaa.P
