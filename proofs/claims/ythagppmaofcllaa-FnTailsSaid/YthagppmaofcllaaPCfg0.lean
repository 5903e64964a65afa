import Derived.Test.YthagppmaofcllaaZz
import Derived.Test.YthagppmaofcllaaP0
import Derived.Test.YthagppmaofcllaaPCadefgh2
import Derived.Test.YthagppmaofcllaaPCaefgh0
import Derived.Test.YthagppmaofcllaaPCall0
import Derived.Test.YthagppmaofcllaaPCefg0
import Derived.Test.YthagppmaofcllaaPDadefgh0
import Derived.Test.YthagppmaofcllaaPDall0
import Derived.Test.YthagppmaofcllaaPDm0
import Derived.Test.YthagppmaofcllaaPDm1
import Derived.Test.YthagppmaofcllaaWRepsOne
import Derived.Test.YthagppmaofcllaaWTab
import Derived.Test.YthagppmaofcllaaLv
import Derived.Test.YthagppmaofcllaaLv
namespace Go.Proofs.Ythagppmaofcllaa.P
open Go.RowKit Go.Proofs.YthagppmaofcllaaW.PrintWords Go.Proofs.YthagppmaofcllaaW.PrintLast Go.Proofs.YthagppmaofcllaaW.PrintMore
attribute [local go_sem] max2_int min2_int max_two min_two max_three min_three max_four min_four   -- for this text's walks alone
set_option linter.unusedVariables false
set_option linter.unusedSimpArgs false
theorem yn0 {p : Prop} (h : p := by rw [hg]; exact Nat.ne_of_lt (Ql (g := gb44) (o := .cells #[.slice A0_0 l0_0.length c0_0, .slice A0_1 l0_1.length c0_1] 27 (0, 0)) zk)) : p := h
theorem yn1 {p : Prop} (h : p := by rw [hg]; exact Nat.ne_of_gt (Ql (g := gb44) (o := .cells #[.slice A0_0 l0_0.length c0_0, .slice A0_1 l0_1.length c0_1] 27 (0, 0)) zk)) : p := h
theorem yn2 {p : Prop} (h : p := by first | (go_simp; done) | (go_simp; rfl)) : p := h
def Zsl3Crash.T1 : Bool × List (List Nat × List Nat) := (true, [([], []), ([], []), ([1], [1]), ([0, 2], [0, 2]), ([], []), ([4], [4]), ([], []), ([5, 6], [5, 6]), ([3, 7, 3], [3, 7]), ([8, 8, 0, 1, 2, 3, 4, 5, 6, 7, 8], [8])])
def Zsl3Crash.B1 : List Nat := [0, 0, 2, 7, 0, 16, 0, 112, 255, 511]
theorem Zsl3Crash.tab1 : rtab .any (opsOf Try.f75 1) = Zsl3Crash.T1 := by kernel_rfl
theorem Zsl3Crash.bits1 : waitsOk Zsl3Crash.T1.2 Zsl3Crash.B1 = true := by kernel_rfl
set_option maxHeartbeats 8000000 in
set_option maxRecDepth 100000 in
theorem Zsl3Crash.calls (k : Nat) (A0_0 : Option Addr) (c0_0 : Nat) (l0_0 : List Int) (A0_1 : Option Addr) (c0_1 : Nat) (l0_1 : List Int) (a1 : Int) (r1 : List Int) (r2 : List Int) (w : World) (hr0_0 : Kd.C (Kd.int .u8) w A0_0 l0_0.length l0_0) (hc0_0 : l0_0.length ≤ c0_0) (hr0_1 : Kd.C (Kd.int .u8) w A0_1 l0_1.length l0_1) (hc0_1 : l0_1.length ≤ c0_1) (h : Zsl3Crash.f k l0_0 l0_1 a1 = some (r1, r2)) :
 Calls Try.prog 75 #[.agg #[.slice A0_0 l0_0.length c0_0, .slice A0_1 l0_1.length c0_1], .int .i64 a1] w fun e w' => ∃ v0_ v1_ : Value, e = .returned (.agg #[v0_, v1_]) ∧ Kd.R (Kd.int .u8) 5 w' w.heap.size (fun k_ => some k_ ≠ (v1_ : Value).ownBlock) v0_ r1 ∧ Kd.R (Kd.int .u8) 5 w' w.heap.size (fun k_ => some k_ ≠ (v0_ : Value).ownBlock) v1_ r2 ∧ Below w.heap.size w w' := by
 have hu27 := Try.underlying27
 have HR0_0 := Qz.mk hr0_0
 have HC0_0 := Qz.mk hc0_0
 clear hr0_0 hc0_0
 have HR0_1 := Qz.mk hr0_1
 have HC0_1 := Qz.mk hc0_1
 clear hr0_1 hc0_1
 have HB := Qz.mk (Below.refl w.heap.size w)
 have H : ((some (([] : List Int) : List Int)).bind fun y36 => (if y36.length + l0_0.length < 140737488355328 then ((some (y36 ++ l0_0 : List Int)).bind fun y34 => (if 0 ≤ a1 then (if a1 ≤ (l0_1.length : Int) then (if y34.length + (l0_1.take (a1 : Int).toNat).length < 140737488355328 then ((some (y34 ++ (l0_1.take (a1 : Int).toNat) : List Int)).bind fun y30 => ((Zsl3Recs.f k y30).bind fun bt37 => ((some (([] : List Int) : List Int)).bind fun y33 => (if 0 ≤ bt37.2 then (if bt37.2 ≤ (y30.length : Int) then ((some (y30.take (bt37.2 : Int).toNat : List Int)).bind fun y31 => (if y33.length + y31.length < 140737488355328 then (some ((y33 ++ y31), ([] : List Int))) else (none))) else (none)) else (none))))) else (none)) else (none)) else (none))) else (none))) = some (r1, r2) := h
 clear h
 obtain ⟨y36, hy36⟩ : ∃ y_ : List Int, y_ = (([] : List Int)) := ⟨_, rfl⟩
 replace H : (if y36.length + l0_0.length < 140737488355328 then ((some (y36 ++ l0_0 : List Int)).bind fun y34 => (if 0 ≤ a1 then (if a1 ≤ (l0_1.length : Int) then (if y34.length + (l0_1.take (a1 : Int).toNat).length < 140737488355328 then ((some (y34 ++ (l0_1.take (a1 : Int).toNat) : List Int)).bind fun y30 => ((Zsl3Recs.f k y30).bind fun bt37 => ((some (([] : List Int) : List Int)).bind fun y33 => (if 0 ≤ bt37.2 then (if bt37.2 ≤ (y30.length : Int) then ((some (y30.take (bt37.2 : Int).toNat : List Int)).bind fun y31 => (if y33.length + y31.length < 140737488355328 then (some ((y33 ++ y31), ([] : List Int))) else (none))) else (none)) else (none))))) else (none)) else (none)) else (none))) else (none)) = some (r1, r2) := by first | (rw [hy36]; with_reducible exact H) | (have H2_ := (Option.bind_some _ _).symm.trans H; rw [hy36]; with_reducible exact H2_) | (have H2_ := (Option.bind_some _ _).symm.trans H; with_reducible exact H2_) | with_reducible exact H | (rw [hy36]; exact H) | exact H
 have Ny36 := Qz.mk hy36
 clear hy36
 by_cases c3 : y36.length + l0_0.length < 140737488355328
 ·rw [if_pos c3] at H
  have LMc3 := Qz.mk c3
  clear c3
  obtain ⟨y34, hy34⟩ : ∃ y_ : List Int, y_ = (y36 ++ l0_0) := ⟨_, rfl⟩
  replace H : (if 0 ≤ a1 then (if a1 ≤ (l0_1.length : Int) then (if y34.length + (l0_1.take (a1 : Int).toNat).length < 140737488355328 then ((some (y34 ++ (l0_1.take (a1 : Int).toNat) : List Int)).bind fun y30 => ((Zsl3Recs.f k y30).bind fun bt37 => ((some (([] : List Int) : List Int)).bind fun y33 => (if 0 ≤ bt37.2 then (if bt37.2 ≤ (y30.length : Int) then ((some (y30.take (bt37.2 : Int).toNat : List Int)).bind fun y31 => (if y33.length + y31.length < 140737488355328 then (some ((y33 ++ y31), ([] : List Int))) else (none))) else (none)) else (none))))) else (none)) else (none)) else (none)) = some (r1, r2) := by first | (rw [hy34]; with_reducible exact H) | (have H2_ := (Option.bind_some _ _).symm.trans H; rw [hy34]; with_reducible exact H2_) | (have H2_ := (Option.bind_some _ _).symm.trans H; with_reducible exact H2_) | with_reducible exact H | (rw [hy34]; exact H) | exact H
  have Ny34 := Qz.mk hy34
  clear hy34
  by_cases c4 : 0 ≤ a1
  ·rw [if_pos c4] at H
   have c4b0 := eq_true c4
   have c4b1 : decide (0 ≤ a1) = true := decide_eq_true c4
   clear c4
   by_cases c5 : a1 ≤ (l0_1.length : Int)
   ·rw [if_pos c5] at H
    have c5b0 := eq_true c5
    have c5b1 : decide (a1 ≤ (l0_1.length : Int)) = true := decide_eq_true c5
    clear c5
    by_cases c6 : y34.length + (l0_1.take (a1 : Int).toNat).length < 140737488355328
    ·rw [if_pos c6] at H
     have LMc6 := Qz.mk c6
     clear c6
     obtain ⟨y30, hy30⟩ : ∃ y_ : List Int, y_ = (y34 ++ (l0_1.take (a1 : Int).toNat)) := ⟨_, rfl⟩
     replace H : ((Zsl3Recs.f k y30).bind fun bt37 => ((some (([] : List Int) : List Int)).bind fun y33 => (if 0 ≤ bt37.2 then (if bt37.2 ≤ (y30.length : Int) then ((some (y30.take (bt37.2 : Int).toNat : List Int)).bind fun y31 => (if y33.length + y31.length < 140737488355328 then (some ((y33 ++ y31), ([] : List Int))) else (none))) else (none)) else (none)))) = some (r1, r2) := by first | (rw [hy30]; with_reducible exact H) | (have H2_ := (Option.bind_some _ _).symm.trans H; rw [hy30]; with_reducible exact H2_) | (have H2_ := (Option.bind_some _ _).symm.trans H; with_reducible exact H2_) | with_reducible exact H | (rw [hy30]; exact H) | exact H
     have Ny30 := Qz.mk hy30
     clear hy30
     replace H := Option.bind_eq_some_iff.mp H
     obtain ⟨⟨t37, t35⟩, A70, H⟩ := H
     replace H : ((some (([] : List Int) : List Int)).bind fun y33 => (if 0 ≤ t35 then (if t35 ≤ (y30.length : Int) then ((some (y30.take (t35 : Int).toNat : List Int)).bind fun y31 => (if y33.length + y31.length < 140737488355328 then (some ((y33 ++ y31), ([] : List Int))) else (none))) else (none)) else (none))) = some (r1, r2) := H
     have A7 := Qz.mk A70
     clear A70
     obtain ⟨y33, hy33⟩ : ∃ y_ : List Int, y_ = (([] : List Int)) := ⟨_, rfl⟩
     replace H : (if 0 ≤ t35 then (if t35 ≤ (y30.length : Int) then ((some (y30.take (t35 : Int).toNat : List Int)).bind fun y31 => (if y33.length + y31.length < 140737488355328 then (some ((y33 ++ y31), ([] : List Int))) else (none))) else (none)) else (none)) = some (r1, r2) := by first | (rw [hy33]; with_reducible exact H) | (have H2_ := (Option.bind_some _ _).symm.trans H; rw [hy33]; with_reducible exact H2_) | (have H2_ := (Option.bind_some _ _).symm.trans H; with_reducible exact H2_) | with_reducible exact H | (rw [hy33]; exact H) | exact H
     have Ny33 := Qz.mk hy33
     clear hy33
     by_cases c8 : 0 ≤ t35
     ·rw [if_pos c8] at H
      have c8b0 := eq_true c8
      have c8b1 : decide (0 ≤ t35) = true := decide_eq_true c8
      clear c8
      by_cases c9 : t35 ≤ (y30.length : Int)
      ·rw [if_pos c9] at H
       have c9b0 := eq_true c9
       have c9b1 : decide (t35 ≤ (y30.length : Int)) = true := decide_eq_true c9
       clear c9
       obtain ⟨y31, hy31⟩ : ∃ y_ : List Int, y_ = (y30.take (t35 : Int).toNat) := ⟨_, rfl⟩
       replace H : (if y33.length + y31.length < 140737488355328 then (some ((y33 ++ y31), ([] : List Int))) else (none)) = some (r1, r2) := by first | (rw [hy31]; with_reducible exact H) | (have H2_ := (Option.bind_some _ _).symm.trans H; rw [hy31]; with_reducible exact H2_) | (have H2_ := (Option.bind_some _ _).symm.trans H; with_reducible exact H2_) | with_reducible exact H | (rw [hy31]; exact H) | exact H
       have Ny31 := Qz.mk hy31
       clear hy31
       by_cases c10 : y33.length + y31.length < 140737488355328
       ·rw [if_pos c10] at H
        have LMc10 := Qz.mk c10
        clear c10
        obtain ⟨y39, hy39⟩ : ∃ y_ : List Int, y_ = (y33 ++ y31) := ⟨_, rfl⟩
        replace H : (some (y39, ([] : List Int))) = some (r1, r2) := by first | (rw [hy39]; with_reducible exact H) | (have H2_ := (Option.bind_some _ _).symm.trans H; rw [hy39]; with_reducible exact H2_) | (have H2_ := (Option.bind_some _ _).symm.trans H; with_reducible exact H2_) | with_reducible exact H | (rw [hy39]; exact H) | exact H
        have Ny39 := Qz.mk hy39
        clear hy39
        simp only [Option.some.injEq, Prod.mk.injEq] at H
        obtain ⟨rfl, rfl⟩ := H
        go_enter Try.func75, Try.ntmps75
        try go_wp2_with (first | ((with_reducible refine gate_dst (N := 2) rfl ?_); refine box_event ?hg (N := 2) ?hd (cs := #[.slice A0_0 l0_0.length c0_0, .slice A0_1 l0_1.length c0_1]) (t := 27) ?hr ?_; (case hd => rfl); (case hg => rfl); (case hr => exact yn2); intro gb28 hg w11 hbox hb; have n0_ := Qz.mk (Qq zb hb); have n1_ := Qz.mk (hbox); have n2_ := Qz.mk ((zh hg : w.heap.size ≤ gb28)); have n3_ := n2_; clear HB; have HB := n0_; have BK28 := n1_; have GW28 := n2_; have GE28 := n3_; clear n0_ n1_ n2_ n3_; clear hb hbox hg) | ((with_reducible refine gate_dst (N := 4) rfl ?_); refine box_event ?hg (N := 4) ?hd (cs := #[.slice none 0 0, .slice none 0 0]) (t := 27) ?hr ?_; (case hd => rfl); (case hg => rfl); (case hr => exact yn2); intro gb29 hg w12 hbox hb; have n0_ := Qz.mk (Qi (g := gb28) (o := .cells #[.slice A0_0 l0_0.length c0_0, .slice A0_1 l0_1.length c0_1] 27 (0, 0)) zk hb); have n1_ := Qz.mk (Qq zb hb); have n2_ := Qz.mk (hbox); have n3_ := Qz.mk ((zh hg : w.heap.size ≤ gb29)); have n4_ := n3_; have n5_ := Qz.mk ((by rw [hg]; exact Nat.ne_of_lt (Ql (g := gb28) (o := .cells #[.slice A0_0 l0_0.length c0_0, .slice A0_1 l0_1.length c0_1] 27 (0, 0)) zk) : gb28 ≠ gb29)); have n6_ := Qz.mk ((by rw [hg]; exact Nat.ne_of_gt (Ql (g := gb28) (o := .cells #[.slice A0_0 l0_0.length c0_0, .slice A0_1 l0_1.length c0_1] 27 (0, 0)) zk) : gb29 ≠ gb28)); clear BK28; clear HB; have BK28 := n0_; have HB := n1_; have BK29 := n2_; have GW29 := n3_; have GE29 := n4_; have NB857_858 := n5_; have NB858_857 := n6_; clear n0_ n1_ n2_ n3_ n4_ n5_ n6_; clear hb hbox hg))
        have n0_ := Qz.mk (Qg BK28.out)
        have n1_ := Qz.mk (Qg BK29.out)
        have n2_ := Qz.mk (Qb HB.out)
        clear BK28
        clear BK29
        clear HB
        have BK28 := n0_
        have BK29 := n1_
        have HB := n2_
        clear n0_ n1_ n2_
        obtain ⟨i014, hi014, _, hsz14, _⟩ := info_parts info5
        obtain ⟨hcut14, hA14, hC14⟩ := print_take_of (P := Try.prog) (Value.int .u8) 0 22 5 .i64 Try.underlying22 hi014 hsz14 A0_1 c0_1 l0_1 a1 (of_decide_eq_true za) (of_decide_eq_true za) HC0_1.out
        have HR865 := Qz.mk (Kd.C_of_reads (h1 := fun _ => rfl) (hA14 _ (Kd.reads_of_C HR0_1.out)))
        have HC865 := Qz.mk hC14
        clear hA14 hC14 hi014 hsz14
        refine start_ (n := 10) (S := fun w' => w'.cell? ⟨gb28, 0, none⟩ = some (.slice A0_0 l0_0.length c0_0) ∧ w'.cell? ⟨gb28, 1, none⟩ = some (.slice A0_1 l0_1.length c0_1)) (ds := []) #[Z, Z, Z, Z, Z, Z, Z, Z, Z, Z] (by kernel_rfl) rfl rfl ⟨(Qh BK28.out 0).trans rfl, (Qh BK28.out 1).trans rfl⟩ (fun hHeld => ?_); refine with_tabW Zsl3Crash.tab1 Zsl3Crash.bits1 (fun HT_ HW_ => ?_)
        generalize w12.drew = w13 at BK28 BK29 HB HR865 hHeld ⊢
        refine zp 1 9 ?_; refine zp 4 12 ?_; refine zp 6 14 ?_; refine zt 2 10 ?_; refine zt 5 13 ?_; refine zp 7 15 ?_
        refine one_ (i := 0) (N := some 8) #[Y, Y, Y, Z, Y, Y, Y, Y, Z, Z] rfl rfl (one_of HT_.out (by kernel_rfl)) (by decide) (fun K hK => ?_)
        refine Kd.R_lit_step (Kd.int .u8) _ 5 ?hg (N := 8) ?hd (xs := ([] : List Int)) (inner := []) (ok := fun _ => True) (okp := fun _ => True) ?hr ?hp (fun _ hk => hk) trivial (Below.refl _ _) (Nat.le_refl _) (by simp) ?_; (case hd => rfl); (case hg => rfl); (case hr => exact yn2); (case hp => exact (Reps.none _ _))
        intro v45 w15 ho16 hb hg_ hnew_
        clear hg_ hnew_
        (first | rw [← Ny36.out] at ho16 | (simp only [Int.reduceToNat] at ho16; rw [← Ny36.out] at ho16))
        have n0_ := Qz.mk (Kd.Qan ho16 (Qp zb))
        have n1_ := Qz.mk (Qi (g := gb28) (o := .cells #[.slice A0_0 l0_0.length c0_0, .slice A0_1 l0_1.length c0_1] 27 (0, 0)) zk hb)
        have n2_ := Qz.mk (Qi (g := gb29) (o := .cells #[.slice none 0 0, .slice none 0 0] 27 (0, 0)) zk hb)
        have n3_ := Qz.mk (Qq zb hb)
        clear BK28
        clear BK29
        clear HB
        have HO42 := n0_
        have BK28 := n1_
        have BK29 := n2_
        have HB := n3_
        clear n0_ n1_ n2_ n3_
        clear hb ho16
        refine hK.out _ _ ⟨(Qh BK28.out 0).trans rfl, (Qh BK28.out 1).trans rfl⟩ (fun hHeld => ?_)
        clear hK K
        refine norm_ (a' := ?_) ?_ ?_
        rotate_left
        ·show Act.put _ (some 8) _ = _
         simp only [Act.put, List.setIfInBounds_toArray, List.set_cons_zero, List.set_cons_succ, Qar, Qas]
         rfl
        refine one_ (i := 3) (N := some 11) #[Y, Y, Y, Y, Y, Y, Y, Y, Z, Z] rfl rfl (one_of HT_.out (by kernel_rfl)) (by decide) (fun K hK => ?_)
        refine Kd.R_append_rows_step (Kd.int .u8) (w0 := w) w.heap.size (by rfl) (.tmp 8) (.tmp 10) 22 5 (.int .u8 0) 1 rfl Try.underlying22 info5 rfl (by decide) (by omega) v45 y36 l0_0 _ _ _ (fun _ => True) (fun _ => False) rfl rfl ?aO ?aR (fun _ _ h => h) (fun _ h => h.elim) ?aF ?aB ?aS ?aL ?_
        (case aR => repeat (first | exact (Kd.Qac HR0_0.out HB.out) | (with_reducible first | refine Kd.Qaa ?_ _ | refine Kd.Qz ?_ _ | refine Kd.Qab ?_)))
        (case aB => exact zb)
        (case aF => exact (fun _ _ => trivial))
        (case aO => exact (zr HO42))
        (case aS => exact (Qp zb))
        (case aL => have := LMc3.out; omega)
        intro v46 w17 ho hb hg hat
        rw [← Ny34.out] at ho
        have n0_ := Qz.mk (blk_grown (g := gb28) (o := .cells #[.slice A0_0 l0_0.length c0_0, .slice A0_1 l0_1.length c0_1] 27 (0, 0)) zk hg (Kd.R_ne HO42.out BK28.out (by decide)))
        have n1_ := Qz.mk (blk_grown (g := gb29) (o := .cells #[.slice none 0 0, .slice none 0 0] 27 (0, 0)) zk hg (Kd.R_ne HO42.out BK29.out (by decide)))
        have n2_ := Qz.mk (hb)
        have n3_ := Qz.mk (ho)
        clear BK28
        clear BK29
        clear HB
        clear HO42
        have BK28 := n0_
        have BK29 := n1_
        have HB := n2_
        have HO43 := n3_
        clear n0_ n1_ n2_ n3_
        clear ho hb hg hat
        refine hK.out _ _ ⟨(Qh BK28.out 0).trans rfl, (Qh BK28.out 1).trans rfl⟩ (fun hHeld => ?_)
        clear hK K
        refine norm_ (a' := ?_) ?_ ?_
        rotate_left
        ·show Act.put _ (some 11) _ = _
         simp only [Act.put, List.setIfInBounds_toArray, List.set_cons_zero, List.set_cons_succ, Qar, Qas]
         rfl
        refine one_ (i := 8) (N := some 16) #[Y, Y, Y, Y, Y, Y, Y, Y, Y, Z] rfl rfl (one_of HT_.out (by kernel_rfl)) (by decide) (fun K hK => ?_)
        refine Kd.R_append_rows_step (Kd.int .u8) (w0 := w) w.heap.size (by rfl) (.tmp 11) (.tmp 15) 22 5 (.int .u8 0) 1 rfl Try.underlying22 info5 rfl (by decide) (by omega) v46 y34 (l0_1.take (a1 : Int).toNat) _ _ _ (fun _ => True) (fun _ => False) rfl rfl ?aO ?aR (fun _ _ h => h) (fun _ h => h.elim) ?aF ?aB ?aS ?aL ?_
        (case aR => first | (refine Eq.mp (congrArg (fun n_ => ReadsRow _ _ _ _ n_ (l0_1.take (a1 : Int).toNat)) (show (l0_1.take (a1 : Int).toNat).length = a1.toNat from (by rw [List.length_take]; have h_ : (a1 : Int) ≤ (l0_1.length : Int) := of_decide_eq_true za; omega))) ?_; repeat (first | exact (Kd.Qac HR865.out HB.out) | (with_reducible first | refine Kd.Qaa ?_ _ | refine Kd.Qz ?_ _ | refine Kd.Qab ?_))) | (rw [← show (l0_1.take (a1 : Int).toNat).length = a1.toNat from (by rw [List.length_take]; have h_ : (a1 : Int) ≤ (l0_1.length : Int) := of_decide_eq_true za; omega)]; repeat (first | exact (Kd.Qac HR865.out HB.out) | (with_reducible first | refine Kd.Qaa ?_ _ | refine Kd.Qz ?_ _ | refine Kd.Qab ?_))) | (repeat (first | exact (Kd.Qac HR865.out HB.out) | (with_reducible first | refine Kd.Qaa ?_ _ | refine Kd.Qz ?_ _ | refine Kd.Qab ?_))))
        (case aB => exact zb)
        (case aF => exact (fun _ _ => trivial))
        (case aO => exact (zr HO43))
        (case aS => exact (Qp zb))
        (case aL => have := LMc6.out; have hlx_ := (show (l0_1.take (a1 : Int).toNat).length = a1.toNat from (by rw [List.length_take]; have h_ : (a1 : Int) ≤ (l0_1.length : Int) := of_decide_eq_true za; omega)); omega)
        intro v48 w18 ho hb hg hat
        rw [← Ny30.out] at ho
        have n0_ := Qz.mk (blk_grown (g := gb28) (o := .cells #[.slice A0_0 l0_0.length c0_0, .slice A0_1 l0_1.length c0_1] 27 (0, 0)) zk hg (Kd.R_ne HO43.out BK28.out (by decide)))
        have n1_ := Qz.mk (blk_grown (g := gb29) (o := .cells #[.slice none 0 0, .slice none 0 0] 27 (0, 0)) zk hg (Kd.R_ne HO43.out BK29.out (by decide)))
        have n2_ := Qz.mk (hb)
        have n3_ := Qz.mk (ho)
        clear BK28
        clear BK29
        clear HB
        clear HO43
        have BK28 := n0_
        have BK29 := n1_
        have HB := n2_
        have HO38 := n3_
        clear n0_ n1_ n2_ n3_
        clear ho hb hg hat
        refine hK.out _ _ ⟨(Qh BK28.out 0).trans rfl, (Qh BK28.out 1).trans rfl⟩ (fun hHeld => ?_)
        clear hK K
        refine norm_ (a' := ?_) ?_ ?_
        rotate_left
        ·show Act.put _ (some 16) _ = _
         simp only [Act.put, List.setIfInBounds_toArray, List.set_cons_zero, List.set_cons_succ, Qar, Qas]
         rfl
        refine zp 9 5 ?_
        refine done_ (done_of HT_.out (by kernel_rfl)) ?_
        obtain ⟨Ao19, co19, eo19⟩ := Kd.R_slice HO38.out
        subst eo19
        try go_wp2_with (first | ((with_reducible refine gate_callee (f := 49) rfl ?_); refine Qat (some 19) rfl rfl Try.func49 (by kernel_rfl) rfl #[.slice Ao19 y30.length co19] rfl zm ?_; (with_reducible refine (Zsl3Recs.calls k _ _ y30 t37 t35 _ ?side1 ?side2 A7.out).mono ?_); (case side1 => exact zc (Kd.Qaj HO38.out).2.2); (case side2 => exact (Kd.Qaj HO38.out).2.1); rintro e w20 ⟨v50, rfl, ho0, hb⟩; refine ⟨_, rfl, ?_⟩; have n0_ := Qz.mk (Kd.Qy (zr HO38) hb); have n1_ := Qz.mk (Kd.Qan ho0 (Qp zb)); have n2_ := Qz.mk (Qi (g := gb28) (o := .cells #[.slice A0_0 l0_0.length c0_0, .slice A0_1 l0_1.length c0_1] 27 (0, 0)) zk hb); have n3_ := Qz.mk (Qi (g := gb29) (o := .cells #[.slice none 0 0, .slice none 0 0] 27 (0, 0)) zk hb); have n4_ := Qz.mk (Qq zb hb); clear HO38; clear BK28; clear BK29; clear HB; have HO38 := n0_; have HO40 := n1_; have BK28 := n2_; have BK29 := n3_; have HB := n4_; clear n0_ n1_ n2_ n3_ n4_; (try clear hb); (try clear hb2); (try clear hk); (try clear hi); (try clear ho0)) | ((with_reducible refine gate_dst (N := 22) rfl ?_); refine Kd.R_lit (Kd.int .u8) _ 5 ?hg (N := 22) ?hd (xs := ([] : List Int)) (inner := []) (ok := fun _ => True) (okp := fun _ => True) ?hr ?hp (fun _ hk => hk) trivial (Below.refl _ _) (Nat.le_refl _) (by simp) ?_; (case hd => rfl); (case hg => rfl); (case hr => exact yn2); (case hp => exact (Reps.none _ _)); intro v47 w21 ho22 hb hg_ hnew_; clear hg_ hnew_; (first | rw [← Ny33.out] at ho22 | (simp only [Int.reduceToNat] at ho22; rw [← Ny33.out] at ho22)); have n0_ := Qz.mk (Kd.R_elder' (zr HO38) (Kd.Qah ho22) hb); have n1_ := Qz.mk (Kd.Qy (zr HO40) hb); have n2_ := Qz.mk (Kd.Qan (Kd.Qal ho22 (Kd.R_lt (zr HO38))) (Qp zb)); have n3_ := Qz.mk (Qi (g := gb28) (o := .cells #[.slice A0_0 l0_0.length c0_0, .slice A0_1 l0_1.length c0_1] 27 (0, 0)) zk hb); have n4_ := Qz.mk (Qi (g := gb29) (o := .cells #[.slice none 0 0, .slice none 0 0] 27 (0, 0)) zk hb); have n5_ := Qz.mk (Qq zb hb); clear HO38; clear HO40; clear BK28; clear BK29; clear HB; have HO38 := n0_; have HO40 := n1_; have HO41 := n2_; have BK28 := n3_; have BK29 := n4_; have HB := n5_; clear n0_ n1_ n2_ n3_ n4_ n5_; clear hb ho22; have q23 : (t35 : Int) ≤ ((y30.length : Int) : Int) := of_decide_eq_true za; obtain ⟨i023, hi023, _, hsz23, _⟩ := info_parts info5; have hroom23 : y30.length ≤ co19 := (Kd.Qaj HO38.out).2.1; have hC23 : Kd.C (Kd.int .u8) _ Ao19 y30.length y30 := (Kd.Qaj HO38.out).2.2; have hcut23 := cut_to (P := Try.prog) 22 5 .i64 Try.underlying22 hi023 Ao19 y30.length co19 t35 (of_decide_eq_true za) q23 hroom23; have hr23 := Kd.C_take (m := (t35 : Int).toNat) hC23 (by omega); have hy23 : y31.length = (t35 : Int).toNat := (by rw [Ny31.out, List.length_take]; omega); rw [← Ny31.out] at hr23; rw [← hy23] at hcut23; have HR879 := Qz.mk hr23; have HC879 := Qz.mk (show y31.length ≤ co19 from by omega); clear hr23 hC23 hroom23 hi023 hsz23; have KY23 := Qz.mk hy23; clear hy23; have KL23 := Qz.mk (show (t35 : Int).toNat ≤ y30.length from by omega); replace q23 := eq_true q23) | ((with_reducible refine gate_builtin (b := .append) (xs := #[.tmp 22, .tmp 25]) rfl ?_); at_builtin; refine Kd.R_append_rows (Kd.int .u8) (w0 := w) w.heap.size rfl (.tmp 22) (.tmp 25) 22 5 (.int .u8 0) 1 rfl Try.underlying22 info5 rfl (by decide) (by omega) v47 y33 y31 _ _ _ (fun k_ => some k_ ≠ (.slice Ao19 y30.length co19 : Value).ownBlock) (fun _ => False) rfl rfl ?aO ?aR (fun _ _ h => h) (fun _ h => h.elim) ?aF ?aB ?aS ?aL ?_; (case aR => repeat (first | exact (by repeat (first | (with_reducible exact HR879.out) | (with_reducible first | refine Kd.Qaa ?_ _ | refine Kd.Qz ?_ _ | refine Kd.Qab ?_) | exact HR879.out)) | (with_reducible first | refine Kd.Qaa ?_ _ | refine Kd.Qz ?_ _ | refine Kd.Qab ?_))); (case aB => exact zb); (case aF => exact (fun k_ hk => Kd.fresh' (Kd.R_lt (zr HO38)) k_ hk)); (case aO => exact (by refine zR ?_; exact Kd.Qw HO41.out (fun _ hk => hk.2))); (case aS => exact (Qp zb)); (case aL => have := LMc10.out; omega); intro v51 w24 ho hb hg hat; rw [← Ny39.out] at ho; have n0_ := Qz.mk (blk_grown (g := gb28) (o := .cells #[.slice A0_0 l0_0.length c0_0, .slice A0_1 l0_1.length c0_1] 27 (0, 0)) zk hg (Kd.R_ne HO41.out BK28.out (by decide))); have n1_ := Qz.mk (blk_grown (g := gb29) (o := .cells #[.slice none 0 0, .slice none 0 0] 27 (0, 0)) zk hg (Kd.R_ne HO41.out BK29.out (by decide))); have n2_ := Qz.mk (Kd.R_after (ok := (fun _ => True)) (zr HO38) hg hat); have n3_ := Qz.mk (Kd.R_over' (zr HO40) (Kd.R_typed (zr HO41)) (by decide) hg); have n4_ := Qz.mk (hb); have n5_ := Qz.mk ((show Kd.C (Kd.int .u8) w24 Ao19 y31.length y31 from by rw [Ny31.out]; exact Kd.C_take (m := (t35 : Int).toNat) ((Kd.Qaj (Kd.R_after (ok := (fun _ => True)) (zr HO38) hg hat)).2.2) KL23.out)); have n6_ := Qz.mk (ho); clear BK28; clear BK29; clear HO38; clear HO40; clear HB; clear HR879; clear HO41; have BK28 := n0_; have BK29 := n1_; have HO38 := n2_; have HO40 := n3_; have HB := n4_; have HR879 := n5_; have HO44 := n6_; clear n0_ n1_ n2_ n3_ n4_ n5_ n6_; clear ho hb hg hat; obtain ⟨Ao25, co25, eo25⟩ := Kd.R_slice HO44.out; subst eo25; have hnb26 := NB858_857.out; have hnc26 := NB857_858.out; obtain ⟨z27_0, z27_1, j27_0, j27_1⟩ := Lv.blks2 BK29.out))
        refine bodyPost_ret (results_cell_row rfl _ _ gb29 27 #[.slice Ao25 y39.length co25, .slice none 0 0] (0, 0) _ rfl (by refine zQ ?_; refine Qk (cs := #[.slice Ao25 y39.length co25, .slice none 0 0]) ?_ 1 _ rfl; refine zQ ?_; refine Qk (cs := #[.slice none 0 0, .slice none 0 0]) ?_ 0 _ rfl; refine zQ ?_; exact BK29.out) Try.underlying27 rfl (by kernel_rfl)) rfl ?_
        exact ⟨_, _, ze, by refine zR ?_; exact Kd.Qw (Kd.Qx (p := ⟨gb29, 1, none⟩) (Kd.Qx (p := ⟨gb29, 0, none⟩) (Kd.Qai HO44.out BK29.out (by decide)) (fun _ hk => hk.2) (.slice Ao25 y39.length co25)) (fun _ hk => hk.2) (.slice none 0 0)) (fun _ hk => (by simp [Value.ownBlock])), by first | exact Kd.R_nil _ _ _ _ _ | exact Kd.N_nil _ _ _ _ _ | exact Kd.V_nil _ _ _ _ _ | exact Kd.Q_nil _ _ _ _ _ | exact Kd.S_nil _ _ _ _ _, zb⟩
       rw [if_neg c10] at H
       exact absurd H (by simp)
      rw [if_neg c9] at H
      exact absurd H (by simp)
     rw [if_neg c8] at H
     exact absurd H (by simp)
    rw [if_neg c6] at H
    exact absurd H (by simp)
   rw [if_neg c5] at H
   exact absurd H (by simp)
  rw [if_neg c4] at H
  exact absurd H (by simp)
 rw [if_neg c3] at H
 exact absurd H (by simp)
set_option maxHeartbeats 8000000 in
set_option maxRecDepth 100000 in
theorem ZsCrashLog.calls (k : Nat) (A0_0 : Option Addr) (c0_0 : Nat) (l0_0 : List Int) (A0_1 : Option Addr) (c0_1 : Nat) (l0_1 : List Int) (a1 : Int) (r1 : Int) (r2 : Int) (r3 : List Int) (r4 : List Int) (w : World) (hr0_0 : Kd.C (Kd.int .u8) w A0_0 l0_0.length l0_0) (hc0_0 : l0_0.length ≤ c0_0) (hr0_1 : Kd.C (Kd.int .u8) w A0_1 l0_1.length l0_1) (hc0_1 : l0_1.length ≤ c0_1) (h : ZsCrashLog.f k l0_0 l0_1 a1 = some (r1, r2, r3, r4)) :
 Calls Try.prog 42 #[.agg #[.slice A0_0 l0_0.length c0_0, .slice A0_1 l0_1.length c0_1], .int .i64 a1] w fun e w' => ∃ v2_ v3_ : Value, e = .returned (.agg #[.int .i64 r1, .int .i64 r2, v2_, v3_]) ∧ Kd.R (Kd.int .u8) 5 w' w.heap.size (fun k_ => some k_ ≠ (v3_ : Value).ownBlock) v2_ r3 ∧ Kd.R (Kd.int .u8) 5 w' w.heap.size (fun k_ => some k_ ≠ (v2_ : Value).ownBlock) v3_ r4 ∧ Below w.heap.size w w' := by
 have hu27 := Try.underlying27
 have hu59 := Try.underlying59
 have HR0_0 := Qz.mk hr0_0
 have HC0_0 := Qz.mk hc0_0
 clear hr0_0 hc0_0
 have HR0_1 := Qz.mk hr0_1
 have HC0_1 := Qz.mk hc0_1
 clear hr0_1 hc0_1
 have HB := Qz.mk (Below.refl w.heap.size w)
 have H : ((ZsLogFault.f k l0_0 l0_1).bind fun t48 => (if t48 = 0 then ((Zsl1In.f a1 0 (l0_1.length : Int)).bind fun t53 => (if t53 = true then ((Zsl3Crash.f k l0_0 l0_1 a1).bind fun bt46 => ((Zsl3Count.f bt46.1 bt46.2).bind fun t49 => (some (0, t49, bt46.1, bt46.2)))) else (some (3, 0, ([] : List Int), ([] : List Int))))) else (some (t48, 0, ([] : List Int), ([] : List Int))))) = some (r1, r2, r3, r4) := h
 clear h
 replace H := Option.bind_eq_some_iff.mp H
 obtain ⟨t48, A30, H⟩ := H
 replace H : (if t48 = 0 then ((Zsl1In.f a1 0 (l0_1.length : Int)).bind fun t53 => (if t53 = true then ((Zsl3Crash.f k l0_0 l0_1 a1).bind fun bt46 => ((Zsl3Count.f bt46.1 bt46.2).bind fun t49 => (some (0, t49, bt46.1, bt46.2)))) else (some (3, 0, ([] : List Int), ([] : List Int))))) else (some (t48, 0, ([] : List Int), ([] : List Int)))) = some (r1, r2, r3, r4) := H
 have A3 := Qz.mk A30
 clear A30
 by_cases c4 : t48 = 0
 ·rw [if_pos c4] at H
  have c4b0 : (t48 == 0) = true := beq_iff_eq.mpr c4
  have c4b1 : (t48 != 0) = false := bne_eq_false_iff_eq.mpr c4
  clear c4
  replace H := Option.bind_eq_some_iff.mp H
  obtain ⟨t53, A50, H⟩ := H
  replace H : (if t53 = true then ((Zsl3Crash.f k l0_0 l0_1 a1).bind fun bt46 => ((Zsl3Count.f bt46.1 bt46.2).bind fun t49 => (some (0, t49, bt46.1, bt46.2)))) else (some (3, 0, ([] : List Int), ([] : List Int)))) = some (r1, r2, r3, r4) := H
  have A5 := Qz.mk A50
  clear A50
  by_cases c6 : t53 = true
  ·subst c6
   have H1 : ((Zsl3Crash.f k l0_0 l0_1 a1).bind fun bt46 => ((Zsl3Count.f bt46.1 bt46.2).bind fun t49 => (some (0, t49, bt46.1, bt46.2)))) = some (r1, r2, r3, r4) := by rw [if_pos rfl] at H; exact H
   clear H
   have H := H1
   clear H1
   replace H := Option.bind_eq_some_iff.mp H
   obtain ⟨⟨t46, t47⟩, A70, H⟩ := H
   replace H : ((Zsl3Count.f t46 t47).bind fun t49 => (some (0, t49, t46, t47))) = some (r1, r2, r3, r4) := H
   have A7 := Qz.mk A70
   clear A70
   replace H := Option.bind_eq_some_iff.mp H
   obtain ⟨t49, A80, H⟩ := H
   replace H : (some (0, t49, t46, t47)) = some (r1, r2, r3, r4) := H
   have A8 := Qz.mk A80
   clear A80
   simp only [Option.some.injEq, Prod.mk.injEq] at H
   obtain ⟨rfl, rfl, rfl, rfl⟩ := H
   go_enter Try.func42, Try.ntmps42
   try go_wp2_with (first | ((with_reducible refine gate_dst (N := 2) rfl ?_); refine box_event ?hg (N := 2) ?hd (cs := #[.slice A0_0 l0_0.length c0_0, .slice A0_1 l0_1.length c0_1]) (t := 27) ?hr ?_; (case hd => rfl); (case hg => rfl); (case hr => exact yn2); intro gb44 hg w9 hbox hb; have n0_ := Qz.mk (Qq zb hb); have n1_ := Qz.mk (hbox); have n2_ := Qz.mk ((zh hg : w.heap.size ≤ gb44)); have n3_ := n2_; clear HB; have HB := n0_; have BK44 := n1_; have GW44 := n2_; have GE44 := n3_; clear n0_ n1_ n2_ n3_; clear hb hbox hg) | ((with_reducible refine gate_dst (N := 4) rfl ?_); refine box_event ?hg (N := 4) ?hd (cs := #[.int .i64 0, .int .i64 0, .slice none 0 0, .slice none 0 0]) (t := 59) ?hr ?_; (case hd => rfl); (case hg => rfl); (case hr => exact yn2); intro gb43 hg w10 hbox hb; have n0_ := Qz.mk (Qi (g := gb44) (o := .cells #[.slice A0_0 l0_0.length c0_0, .slice A0_1 l0_1.length c0_1] 27 (0, 0)) zk hb); have n1_ := Qz.mk (Qq zb hb); have n2_ := Qz.mk (hbox); have n3_ := Qz.mk ((zh hg : w.heap.size ≤ gb43)); have n4_ := n3_; have n5_ := Qz.mk ((yn0 : gb44 ≠ gb43)); have n6_ := Qz.mk ((yn1 : gb43 ≠ gb44)); clear BK44; clear HB; have BK44 := n0_; have HB := n1_; have BK43 := n2_; have GW43 := n3_; have GE43 := n4_; have NB883_884 := n5_; have NB884_883 := n6_; clear n0_ n1_ n2_ n3_ n4_ n5_ n6_; clear hb hbox hg; have hnb11 := NB883_884.out; have hnc11 := NB884_883.out; obtain ⟨z12_0, z12_1, j12_0, j12_1⟩ := Lv.blks2 BK44.out) | ((with_reducible refine gate_callee (f := 12) rfl ?_); refine Qat (some 8) rfl rfl Try.func12 (by kernel_rfl) rfl #[.agg #[.slice A0_0 l0_0.length c0_0, .slice A0_1 l0_1.length c0_1]] rfl zm ?_; (with_reducible refine (ZsLogFault.calls k _ _ l0_0 _ _ l0_1 t48 _ ?side1 ?side2 ?side3 ?side4 A3.out).mono ?_); (case side1 => exact zc (Kd.Qac HR0_0.out HB.out)); (case side2 => exact HC0_0.out); (case side3 => exact zc (Kd.Qac HR0_1.out HB.out)); (case side4 => exact HC0_1.out); rintro e w13 ⟨rfl, hb⟩; refine ⟨_, rfl, ?_⟩; have n0_ := Qz.mk (Qi (g := gb44) (o := .cells #[.slice A0_0 l0_0.length c0_0, .slice A0_1 l0_1.length c0_1] 27 (0, 0)) zk hb); have n1_ := Qz.mk (Qi (g := gb43) (o := .cells #[.int .i64 0, .int .i64 0, .slice none 0 0, .slice none 0 0] 59 (0, 0)) zk hb); have n2_ := Qz.mk (Qq zb hb); clear BK44; clear BK43; clear HB; have BK44 := n0_; have BK43 := n1_; have HB := n2_; clear n0_ n1_ n2_; (try clear hb); (try clear hb2); (try clear hk); (try clear hi); obtain ⟨z14_0, z14_1, j14_0, j14_1⟩ := Lv.blks2 BK44.out) | ((with_reducible refine gate_callee (f := 74) rfl ?_); refine Qat (some 17) rfl rfl Try.func74 (by kernel_rfl) rfl #[.int .i64 a1, .int .i64 0, .int .i64 (l0_1.length : Int)] rfl zm ?_; (with_reducible refine (Zsl1In.calls a1 0 (l0_1.length : Int) true _ A5.out).mono ?_); rintro e w' ⟨rfl, ⟨nd, rfl⟩⟩; refine ⟨_, rfl, ?_⟩; (repeat (rw [drewN_self w13]; generalize hq_ : World.drewN w13 _ = w13; have n0_ : Qz (w13.heap[gb44]? = some (.cells #[.slice A0_0 l0_0.length c0_0, .slice A0_1 l0_1.length c0_1] 27 (0, 0))) := ⟨by rw [← hq_]; exact zk⟩; have n1_ : Qz (w13.heap[gb43]? = some (.cells #[.int .i64 0, .int .i64 0, .slice none 0 0, .slice none 0 0] 59 (0, 0))) := ⟨by rw [← hq_]; exact zk⟩; have n2_ : Qz (Below w.heap.size w w13) := ⟨by rw [← hq_]; exact zb⟩; clear BK44 BK43 HB hq_; have BK44 := n0_; have BK43 := n1_; have HB := n2_; clear n0_ n1_ n2_)); (try (have hczrgb883_0 : w13.cell? ⟨gb44, 0, none⟩ = some (.slice A0_0 l0_0.length c0_0) := (Qh BK44.out 0).trans rfl)); (try (have hfzrgb883_0 := Qj BK44.out 0)); (try (have hczrgb883_1 : w13.cell? ⟨gb44, 1, none⟩ = some (.slice A0_1 l0_1.length c0_1) := (Qh BK44.out 1).trans rfl)); (try (have hfzrgb883_1 := Qj BK44.out 1)); (try (have hczrgb884_0 : w13.cell? ⟨gb43, 0, none⟩ = some (.int .i64 0) := (Qh BK43.out 0).trans rfl)); (try (have hfzrgb884_0 := Qj BK43.out 0)); (try (have hczrgb884_1 : w13.cell? ⟨gb43, 1, none⟩ = some (.int .i64 0) := (Qh BK43.out 1).trans rfl)); (try (have hfzrgb884_1 := Qj BK43.out 1)); (try (have hczrgb884_2 : w13.cell? ⟨gb43, 2, none⟩ = some (.slice none 0 0) := (Qh BK43.out 2).trans rfl)); (try (have hfzrgb884_2 := Qj BK43.out 2)); (try (have hczrgb884_3 : w13.cell? ⟨gb43, 3, none⟩ = some (.slice none 0 0) := (Qh BK43.out 3).trans rfl)); (try (have hfzrgb884_3 := Qj BK43.out 3))) | ((with_reducible refine gate_callee (f := 75) rfl ?_); refine Qat (some 22) rfl rfl Try.func75 (by kernel_rfl) rfl #[.agg #[.slice A0_0 l0_0.length c0_0, .slice A0_1 l0_1.length c0_1], .int .i64 a1] rfl zm ?_; (with_reducible refine (Zsl3Crash.calls k _ _ l0_0 _ _ l0_1 a1 t46 t47 _ ?side1 ?side2 ?side3 ?side4 A7.out).mono ?_); (case side1 => exact zc (Kd.Qac HR0_0.out HB.out)); (case side2 => exact HC0_0.out); (case side3 => exact zc (Kd.Qac HR0_1.out HB.out)); (case side4 => exact HC0_1.out); rintro e w15 ⟨v54, v55, rfl, ho0, ho1, hb⟩; refine ⟨_, rfl, ?_⟩; have n0_ := Qz.mk (Kd.Qan ho0 (Qp zb)); have n1_ := Qz.mk (Kd.Qan ho1 (Qp zb)); have n2_ := Qz.mk (Qi (g := gb44) (o := .cells #[.slice A0_0 l0_0.length c0_0, .slice A0_1 l0_1.length c0_1] 27 (0, 0)) zk hb); have n3_ := Qz.mk (Qi (g := gb43) (o := .cells #[.int .i64 0, .int .i64 0, .slice none 0 0, .slice none 0 0] 59 (0, 0)) zk hb); have n4_ := Qz.mk (Qq zb hb); clear BK44; clear BK43; clear HB; have HO51 := n0_; have HO52 := n1_; have BK44 := n2_; have BK43 := n3_; have HB := n4_; clear n0_ n1_ n2_ n3_ n4_; (try clear hb); (try clear hb2); (try clear hk); (try clear hi); (try clear ho0); (try clear ho1)) | ((with_reducible refine gate_dst (N := 6) rfl ?_); refine box_event ?hg (N := 6) ?hd (cs := #[.slice none 0 0, .slice none 0 0]) (t := 27) ?hr ?_; (case hd => rfl); (case hg => rfl); (case hr => exact yn2); intro gb45 hg w16 hbox hb; have n0_ := Qz.mk (Kd.Qy (zr HO51) hb); have n1_ := Qz.mk (Kd.Qy (zr HO52) hb); have n2_ := Qz.mk (Qi (g := gb44) (o := .cells #[.slice A0_0 l0_0.length c0_0, .slice A0_1 l0_1.length c0_1] 27 (0, 0)) zk hb); have n3_ := Qz.mk (Qi (g := gb43) (o := .cells #[.int .i64 0, .int .i64 0, .slice none 0 0, .slice none 0 0] 59 (0, 0)) zk hb); have n4_ := Qz.mk (Qq zb hb); have n5_ := Qz.mk (hbox); have n6_ := Qz.mk ((zh hg : w.heap.size ≤ gb45)); have n7_ := n6_; have n8_ := Qz.mk ((yn0 : gb44 ≠ gb45)); have n9_ := Qz.mk ((yn1 : gb45 ≠ gb44)); have n10_ := Qz.mk ((by rw [hg]; exact Nat.ne_of_lt (Ql (g := gb43) (o := .cells #[.int .i64 0, .int .i64 0, .slice none 0 0, .slice none 0 0] 59 (0, 0)) zk) : gb43 ≠ gb45)); have n11_ := Qz.mk ((by rw [hg]; exact Nat.ne_of_gt (Ql (g := gb43) (o := .cells #[.int .i64 0, .int .i64 0, .slice none 0 0, .slice none 0 0] 59 (0, 0)) zk) : gb45 ≠ gb43)); clear HO51; clear HO52; clear BK44; clear BK43; clear HB; have HO51 := n0_; have HO52 := n1_; have BK44 := n2_; have BK43 := n3_; have HB := n4_; have BK45 := n5_; have GW45 := n6_; have GE45 := n7_; have NB883_893 := n8_; have NB893_883 := n9_; have NB884_893 := n10_; have NB893_884 := n11_; clear n0_ n1_ n2_ n3_ n4_ n5_ n6_ n7_ n8_ n9_ n10_ n11_; clear hb hbox hg; obtain ⟨Ao17, co17, eo17⟩ := Kd.R_slice HO51.out; subst eo17; have hnb18 := NB893_883.out; have hnc18 := NB883_893.out; have hnb19 := NB893_884.out; have hnc19 := NB884_893.out; obtain ⟨z20_0, z20_1, j20_0, j20_1⟩ := Lv.blks2 BK45.out; obtain ⟨Ao21, co21, eo21⟩ := Kd.R_slice HO52.out; subst eo21))
   have n0_ : Qz (Kd.R (Kd.int .u8) 5 ((w16.setCell ⟨gb45, 0, none⟩ (.slice Ao17 t46.length co17)).setCell ⟨gb45, 1, none⟩ (.slice Ao21 t47.length co21)) w.heap.size (fun k_ => some k_ ≠ (.slice Ao21 t47.length co21 : Value).ownBlock) (.slice Ao17 t46.length co17) t46) := ⟨by refine zR ?_; exact Kd.Qw (Kd.Qx (p := ⟨gb45, 1, none⟩) (Kd.Qx (p := ⟨gb45, 0, none⟩) (Kd.Qai HO51.out BK45.out (by decide)) (fun _ hk => hk.2) (.slice Ao17 t46.length co17)) (fun _ hk => hk.2) (.slice Ao21 t47.length co21)) (fun _ hk => hk.1)⟩
   have n1_ : Qz (Kd.R (Kd.int .u8) 5 ((w16.setCell ⟨gb45, 0, none⟩ (.slice Ao17 t46.length co17)).setCell ⟨gb45, 1, none⟩ (.slice Ao21 t47.length co21)) w.heap.size (fun k_ => some k_ ≠ (.slice Ao17 t46.length co17 : Value).ownBlock) (.slice Ao21 t47.length co21) t47) := ⟨by refine zR ?_; exact Kd.Qw (Kd.Qx (p := ⟨gb45, 1, none⟩) (Kd.Qx (p := ⟨gb45, 0, none⟩) (Kd.Qai HO52.out BK45.out (by decide)) (fun _ hk => hk.2) (.slice Ao17 t46.length co17)) (fun _ hk => hk.2) (.slice Ao21 t47.length co21)) (fun _ hk => hk.1)⟩
   have n2_ : Qz (((w16.setCell ⟨gb45, 0, none⟩ (.slice Ao17 t46.length co17)).setCell ⟨gb45, 1, none⟩ (.slice Ao21 t47.length co21)).heap[gb44]? = some (.cells #[.slice A0_0 l0_0.length c0_0, .slice A0_1 l0_1.length c0_1] 27 (0, 0))) := ⟨by refine zQ ?_; refine blk_far ?_ NB883_893.out _; refine zQ ?_; refine blk_far ?_ NB883_893.out _; refine zQ ?_; exact BK44.out⟩
   have n3_ : Qz (((w16.setCell ⟨gb45, 0, none⟩ (.slice Ao17 t46.length co17)).setCell ⟨gb45, 1, none⟩ (.slice Ao21 t47.length co21)).heap[gb43]? = some (.cells #[.int .i64 0, .int .i64 0, .slice none 0 0, .slice none 0 0] 59 (0, 0))) := ⟨by refine zQ ?_; refine blk_far ?_ NB884_893.out _; refine zQ ?_; refine blk_far ?_ NB884_893.out _; refine zQ ?_; exact BK43.out⟩
   have n4_ : Qz (((w16.setCell ⟨gb45, 0, none⟩ (.slice Ao17 t46.length co17)).setCell ⟨gb45, 1, none⟩ (.slice Ao21 t47.length co21)).heap[gb45]? = some (.cells #[.slice Ao17 t46.length co17, .slice Ao21 t47.length co21] 27 (0, 0))) := ⟨by refine zQ ?_; refine Qk (cs := #[.slice Ao17 t46.length co17, .slice none 0 0]) ?_ 1 _ rfl; refine zQ ?_; refine Qk (cs := #[.slice none 0 0, .slice none 0 0]) ?_ 0 _ rfl; refine zQ ?_; exact BK45.out⟩
   have n5_ : Qz (Below w.heap.size w ((w16.setCell ⟨gb45, 0, none⟩ (.slice Ao17 t46.length co17)).setCell ⟨gb45, 1, none⟩ (.slice Ao21 t47.length co21))) := ⟨zb⟩
   (try clear HO51)
   (try clear HO52)
   (try clear BK44)
   (try clear BK43)
   (try clear BK45)
   (try clear HB)
   generalize ((w16.setCell ⟨gb45, 0, none⟩ (.slice Ao17 t46.length co17)).setCell ⟨gb45, 1, none⟩ (.slice Ao21 t47.length co21)) = w22 at n0_ n1_ n2_ n3_ n4_ n5_ ⊢
   have HO51 := n0_
   have HO52 := n1_
   have BK44 := n2_
   have BK43 := n3_
   have BK45 := n4_
   have HB := n5_
   clear n0_ n1_ n2_ n3_ n4_ n5_
   have n0_ := Qz.mk (Kd.Qo HO51.out)
   have n1_ := Qz.mk (Kd.Qo HO52.out)
   have n2_ := Qz.mk (Qg BK44.out)
   have n3_ := Qz.mk (Qg BK43.out)
   have n4_ := Qz.mk (Qg BK45.out)
   have n5_ := Qz.mk (Qb HB.out)
   clear HO51
   clear HO52
   clear BK44
   clear BK43
   clear BK45
   clear HB
   have HO51 := n0_
   have HO52 := n1_
   have BK44 := n2_
   have BK43 := n3_
   have BK45 := n4_
   have HB := n5_
   clear n0_ n1_ n2_ n3_ n4_ n5_
   refine start_ (n := 5) (S := fun w' => w'.cell? ⟨gb45, 0, none⟩ = some (.slice Ao17 t46.length co17) ∧ w'.cell? ⟨gb45, 1, none⟩ = some (.slice Ao21 t47.length co21)) (ds := []) #[Z, Z, Z, Z, Z] (by kernel_rfl) rfl rfl ⟨(Qh BK45.out 0).trans rfl, (Qh BK45.out 1).trans rfl⟩ (fun hHeld => ?_)
   generalize w22.drew = w23 at HO51 HO52 BK44 BK43 BK45 HB hHeld ⊢
   refine zt 0 23 ?_; refine zt 2 25 ?_
   refine one_ (i := 1) (N := some 24) #[Y, Y, Y, Z, Z] rfl rfl (by kernel_rfl) (by decide) (fun K hK => ?_)
   refine goes_ Try.func70 (by kernel_rfl) rfl #[.agg #[.slice Ao17 t46.length co17, .slice Ao21 t47.length co21]] (by rfl) rfl rfl zm ?_
   with_reducible refine (Zsl3Count.calls _ _ t46 _ _ t47 t49 _ ?side1 ?side2 ?side3 ?side4 A8.out).mono ?_
   (case side1 => exact zc (Kd.Qaj HO51.out).2.2)
   (case side2 => exact (Kd.Qaj HO51.out).2.1)
   (case side3 => exact zc (Kd.Qaj HO52.out).2.2)
   (case side4 => exact (Kd.Qaj HO52.out).2.1)
   rintro e w24 ⟨rfl, hb⟩
   refine ⟨_, rfl, ?_⟩
   have n0_ := Qz.mk (Kd.Qy (zr HO51) hb)
   have n1_ := Qz.mk (Kd.Qy (zr HO52) hb)
   have n2_ := Qz.mk (Qi (g := gb44) (o := .cells #[.slice A0_0 l0_0.length c0_0, .slice A0_1 l0_1.length c0_1] 27 (0, 0)) zk hb)
   have n3_ := Qz.mk (Qi (g := gb43) (o := .cells #[.int .i64 0, .int .i64 0, .slice none 0 0, .slice none 0 0] 59 (0, 0)) zk hb)
   have n4_ := Qz.mk (Qi (g := gb45) (o := .cells #[.slice Ao17 t46.length co17, .slice Ao21 t47.length co21] 27 (0, 0)) zk hb)
   have n5_ := Qz.mk (Qq zb hb)
   clear HO51
   clear HO52
   clear BK44
   clear BK43
   clear BK45
   clear HB
   have HO51 := n0_
   have HO52 := n1_
   have BK44 := n2_
   have BK43 := n3_
   have BK45 := n4_
   have HB := n5_
   clear n0_ n1_ n2_ n3_ n4_ n5_
   (try clear hb)
   (try clear hb2)
   (try clear hk)
   (try clear hi)
   refine hK.out _ _ ⟨(Qh BK45.out 0).trans rfl, (Qh BK45.out 1).trans rfl⟩ (fun hHeld => ?_)
   clear hK K
   refine norm_ (a' := ?_) ?_ ?_
   rotate_left
   ·show Act.put _ (some 24) _ = _
    simp only [Act.put, List.setIfInBounds_toArray, List.set_cons_zero, List.set_cons_succ, Qar, Qas]
    rfl
   refine zp 3 26 ?_
   refine one_ (i := 4) (N := none) #[Y, Y, Y, Y, Y] rfl rfl (by kernel_rfl) (by decide) (fun K hK => ?_)
   have hs25 : w24.cell? ⟨gb43, 0, none⟩ = some (.int .i64 0) := (Qh BK43.out 0).trans rfl
   have hfs25 := Qj BK43.out 0
   have hns25_0 := NB883_884.out
   have hns25_2 := NB893_884.out
   have hms25_0 := NB884_883.out
   have hms25_2 := NB884_893.out
   have hs26 : w24.cell? ⟨gb43, 1, none⟩ = some (.int .i64 0) := (Qh BK43.out 1).trans rfl
   have hfs26 := Qj BK43.out 1
   have hns26_0 := NB883_884.out
   have hns26_2 := NB893_884.out
   have hms26_0 := NB884_883.out
   have hms26_2 := NB884_893.out
   have hs27 : w24.cell? ⟨gb43, 2, none⟩ = some (.slice none 0 0) := (Qh BK43.out 2).trans rfl
   have hfs27 := Qj BK43.out 2
   have hns27_0 := NB883_884.out
   have hns27_2 := NB893_884.out
   have hms27_0 := NB884_883.out
   have hms27_2 := NB884_893.out
   have hs28 : w24.cell? ⟨gb43, 3, none⟩ = some (.slice none 0 0) := (Qh BK43.out 3).trans rfl
   have hfs28 := Qj BK43.out 3
   have hns28_0 := NB883_884.out
   have hns28_2 := NB893_884.out
   have hms28_0 := NB884_883.out
   have hms28_2 := NB884_893.out
   refine skip_ (w1 := ?_) (by rfl) rfl ?_ ?_
   rotate_left
   ·go_simp
    rfl
   refine hK.out _ _ ⟨((Qaq (p := ⟨gb43, _, none⟩) NB893_884.out _).trans (((Qaq (p := ⟨gb43, _, none⟩) NB893_884.out _).trans (((Qaq (p := ⟨gb43, _, none⟩) NB893_884.out _).trans (((Qaq (p := ⟨gb43, _, none⟩) NB893_884.out _).trans (hHeld.1)))))))), ((Qaq (p := ⟨gb43, _, none⟩) NB893_884.out _).trans (((Qaq (p := ⟨gb43, _, none⟩) NB893_884.out _).trans (((Qaq (p := ⟨gb43, _, none⟩) NB893_884.out _).trans (((Qaq (p := ⟨gb43, _, none⟩) NB893_884.out _).trans (hHeld.2))))))))⟩ (fun hHeld => ?_)
   clear hK K
   refine done_ (by kernel_rfl) ?_
   try go_wp2
   refine bodyPost_ret (results_cell_row rfl _ _ gb43 59 #[.int .i64 0, .int .i64 t49, .slice Ao17 t46.length co17, .slice Ao21 t47.length co21] (0, 0) _ rfl (by refine zQ ?_; refine Qk (cs := #[.int .i64 0, .int .i64 t49, .slice Ao17 t46.length co17, .slice none 0 0]) ?_ 3 _ rfl; refine zQ ?_; refine Qk (cs := #[.int .i64 0, .int .i64 t49, .slice none 0 0, .slice none 0 0]) ?_ 2 _ rfl; refine zQ ?_; refine Qk (cs := #[.int .i64 0, .int .i64 0, .slice none 0 0, .slice none 0 0]) ?_ 1 _ rfl; refine zQ ?_; refine Qk (cs := #[.int .i64 0, .int .i64 0, .slice none 0 0, .slice none 0 0]) ?_ 0 _ rfl; refine zQ ?_; exact BK43.out) Try.underlying59 rfl (by kernel_rfl)) rfl ?_
   exact ⟨_, _, ze, by refine zR ?_; exact Kd.Qw (Kd.Qx (p := ⟨gb43, 3, none⟩) (Kd.Qx (p := ⟨gb43, 2, none⟩) (Kd.Qx (p := ⟨gb43, 1, none⟩) (Kd.Qx (p := ⟨gb43, 0, none⟩) (Kd.Qai HO51.out BK43.out (by decide)) (fun _ hk => hk.2) (.int .i64 0)) (fun _ hk => hk.2) (.int .i64 t49)) (fun _ hk => hk.2) (.slice Ao17 t46.length co17)) (fun _ hk => hk.2) (.slice Ao21 t47.length co21)) (fun _ hk => hk.1), by refine zR ?_; exact Kd.Qw (Kd.Qx (p := ⟨gb43, 3, none⟩) (Kd.Qx (p := ⟨gb43, 2, none⟩) (Kd.Qx (p := ⟨gb43, 1, none⟩) (Kd.Qx (p := ⟨gb43, 0, none⟩) (Kd.Qai HO52.out BK43.out (by decide)) (fun _ hk => hk.2) (.int .i64 0)) (fun _ hk => hk.2) (.int .i64 t49)) (fun _ hk => hk.2) (.slice Ao17 t46.length co17)) (fun _ hk => hk.2) (.slice Ao21 t47.length co21)) (fun _ hk => hk.1), zb⟩
  replace c6 := Bool.eq_false_iff.mpr c6
  subst c6
  have H1 : (some (3, 0, ([] : List Int), ([] : List Int))) = some (r1, r2, r3, r4) := by rw [if_neg (show ¬ (false = true) by decide)] at H; exact H
  clear H
  have H := H1
  clear H1
  simp only [Option.some.injEq, Prod.mk.injEq] at H
  obtain ⟨rfl, rfl, rfl, rfl⟩ := H
  go_enter Try.func42, Try.ntmps42
  go_wp2_with (first | ((with_reducible refine gate_dst (N := 2) rfl ?_); refine box_event ?hg (N := 2) ?hd (cs := #[.slice A0_0 l0_0.length c0_0, .slice A0_1 l0_1.length c0_1]) (t := 27) ?hr ?_; (case hd => rfl); (case hg => rfl); (case hr => exact yn2); intro gb44 hg w29 hbox hb; have n0_ := Qz.mk (Qq zb hb); have n1_ := Qz.mk (hbox); have n2_ := Qz.mk ((zh hg : w.heap.size ≤ gb44)); have n3_ := n2_; clear HB; have HB := n0_; have BK44 := n1_; have GW44 := n2_; have GE44 := n3_; clear n0_ n1_ n2_ n3_; clear hb hbox hg) | ((with_reducible refine gate_dst (N := 4) rfl ?_); refine box_event ?hg (N := 4) ?hd (cs := #[.int .i64 0, .int .i64 0, .slice none 0 0, .slice none 0 0]) (t := 59) ?hr ?_; (case hd => rfl); (case hg => rfl); (case hr => exact yn2); intro gb43 hg w30 hbox hb; have n0_ := Qz.mk (Qi (g := gb44) (o := .cells #[.slice A0_0 l0_0.length c0_0, .slice A0_1 l0_1.length c0_1] 27 (0, 0)) zk hb); have n1_ := Qz.mk (Qq zb hb); have n2_ := Qz.mk (hbox); have n3_ := Qz.mk ((zh hg : w.heap.size ≤ gb43)); have n4_ := n3_; have n5_ := Qz.mk ((yn0 : gb44 ≠ gb43)); have n6_ := Qz.mk ((yn1 : gb43 ≠ gb44)); clear BK44; clear HB; have BK44 := n0_; have HB := n1_; have BK43 := n2_; have GW43 := n3_; have GE43 := n4_; have NB883_884 := n5_; have NB884_883 := n6_; clear n0_ n1_ n2_ n3_ n4_ n5_ n6_; clear hb hbox hg; have hnb31 := NB883_884.out; have hnc31 := NB884_883.out; obtain ⟨z32_0, z32_1, j32_0, j32_1⟩ := Lv.blks2 BK44.out) | ((with_reducible refine gate_callee (f := 12) rfl ?_); refine Qat (some 8) rfl rfl Try.func12 (by kernel_rfl) rfl #[.agg #[.slice A0_0 l0_0.length c0_0, .slice A0_1 l0_1.length c0_1]] rfl zm ?_; (with_reducible refine (ZsLogFault.calls k _ _ l0_0 _ _ l0_1 t48 _ ?side1 ?side2 ?side3 ?side4 A3.out).mono ?_); (case side1 => exact zc (Kd.Qac HR0_0.out HB.out)); (case side2 => exact HC0_0.out); (case side3 => exact zc (Kd.Qac HR0_1.out HB.out)); (case side4 => exact HC0_1.out); rintro e w33 ⟨rfl, hb⟩; refine ⟨_, rfl, ?_⟩; have n0_ := Qz.mk (Qi (g := gb44) (o := .cells #[.slice A0_0 l0_0.length c0_0, .slice A0_1 l0_1.length c0_1] 27 (0, 0)) zk hb); have n1_ := Qz.mk (Qi (g := gb43) (o := .cells #[.int .i64 0, .int .i64 0, .slice none 0 0, .slice none 0 0] 59 (0, 0)) zk hb); have n2_ := Qz.mk (Qq zb hb); clear BK44; clear BK43; clear HB; have BK44 := n0_; have BK43 := n1_; have HB := n2_; clear n0_ n1_ n2_; (try clear hb); (try clear hb2); (try clear hk); (try clear hi); obtain ⟨z34_0, z34_1, j34_0, j34_1⟩ := Lv.blks2 BK44.out) | ((with_reducible refine gate_callee (f := 74) rfl ?_); refine Qat (some 17) rfl rfl Try.func74 (by kernel_rfl) rfl #[.int .i64 a1, .int .i64 0, .int .i64 (l0_1.length : Int)] rfl zm ?_; (with_reducible refine (Zsl1In.calls a1 0 (l0_1.length : Int) false _ A5.out).mono ?_); rintro e w' ⟨rfl, ⟨nd, rfl⟩⟩; refine ⟨_, rfl, ?_⟩; (repeat (rw [drewN_self w33]; generalize hq_ : World.drewN w33 _ = w33; have n0_ : Qz (w33.heap[gb44]? = some (.cells #[.slice A0_0 l0_0.length c0_0, .slice A0_1 l0_1.length c0_1] 27 (0, 0))) := ⟨by rw [← hq_]; exact zk⟩; have n1_ : Qz (w33.heap[gb43]? = some (.cells #[.int .i64 0, .int .i64 0, .slice none 0 0, .slice none 0 0] 59 (0, 0))) := ⟨by rw [← hq_]; exact zk⟩; have n2_ : Qz (Below w.heap.size w w33) := ⟨by rw [← hq_]; exact zb⟩; clear BK44 BK43 HB hq_; have BK44 := n0_; have BK43 := n1_; have HB := n2_; clear n0_ n1_ n2_)); (try (have hczrgb883_0 : w33.cell? ⟨gb44, 0, none⟩ = some (.slice A0_0 l0_0.length c0_0) := (Qh BK44.out 0).trans rfl)); (try (have hfzrgb883_0 := Qj BK44.out 0)); (try (have hczrgb883_1 : w33.cell? ⟨gb44, 1, none⟩ = some (.slice A0_1 l0_1.length c0_1) := (Qh BK44.out 1).trans rfl)); (try (have hfzrgb883_1 := Qj BK44.out 1)); (try (have hczrgb884_0 : w33.cell? ⟨gb43, 0, none⟩ = some (.int .i64 0) := (Qh BK43.out 0).trans rfl)); (try (have hfzrgb884_0 := Qj BK43.out 0)); (try (have hczrgb884_1 : w33.cell? ⟨gb43, 1, none⟩ = some (.int .i64 0) := (Qh BK43.out 1).trans rfl)); (try (have hfzrgb884_1 := Qj BK43.out 1)); (try (have hczrgb884_2 : w33.cell? ⟨gb43, 2, none⟩ = some (.slice none 0 0) := (Qh BK43.out 2).trans rfl)); (try (have hfzrgb884_2 := Qj BK43.out 2)); (try (have hczrgb884_3 : w33.cell? ⟨gb43, 3, none⟩ = some (.slice none 0 0) := (Qh BK43.out 3).trans rfl)); (try (have hfzrgb884_3 := Qj BK43.out 3)); obtain ⟨z35_0, z35_1, z35_2, z35_3, j35_0, j35_1, j35_2, j35_3⟩ := Lv.blks4 BK43.out))
  refine bodyPost_ret (results_cell_row rfl _ _ gb43 59 #[.int .i64 3, .int .i64 0, .slice none 0 0, .slice none 0 0] (0, 0) _ rfl (by refine zQ ?_; refine Qk (cs := #[.int .i64 3, .int .i64 0, .slice none 0 0, .slice none 0 0]) ?_ 3 _ rfl; refine zQ ?_; refine Qk (cs := #[.int .i64 3, .int .i64 0, .slice none 0 0, .slice none 0 0]) ?_ 2 _ rfl; refine zQ ?_; refine Qk (cs := #[.int .i64 3, .int .i64 0, .slice none 0 0, .slice none 0 0]) ?_ 1 _ rfl; refine zQ ?_; refine Qk (cs := #[.int .i64 0, .int .i64 0, .slice none 0 0, .slice none 0 0]) ?_ 0 _ rfl; refine zQ ?_; exact BK43.out) Try.underlying59 rfl (by kernel_rfl)) rfl ?_
  exact ⟨_, _, ze, by first | exact Kd.R_nil _ _ _ _ _ | exact Kd.N_nil _ _ _ _ _ | exact Kd.V_nil _ _ _ _ _ | exact Kd.Q_nil _ _ _ _ _ | exact Kd.S_nil _ _ _ _ _, by first | exact Kd.R_nil _ _ _ _ _ | exact Kd.N_nil _ _ _ _ _ | exact Kd.V_nil _ _ _ _ _ | exact Kd.Q_nil _ _ _ _ _ | exact Kd.S_nil _ _ _ _ _, zb⟩
 rw [if_neg c4] at H
 have c4b0 : (t48 == 0) = false := beq_eq_false_iff_ne.mpr c4
 have c4b1 : (t48 != 0) = true := bne_iff_ne.mpr c4
 simp only [Option.some.injEq, Prod.mk.injEq] at H
 obtain ⟨rfl, rfl, rfl, rfl⟩ := H
 go_enter Try.func42, Try.ntmps42
 go_wp2_with (first | ((with_reducible refine gate_dst (N := 2) rfl ?_); refine box_event ?hg (N := 2) ?hd (cs := #[.slice A0_0 l0_0.length c0_0, .slice A0_1 l0_1.length c0_1]) (t := 27) ?hr ?_; (case hd => rfl); (case hg => rfl); (case hr => exact yn2); intro gb44 hg w36 hbox hb; have n0_ := Qz.mk (Qq zb hb); have n1_ := Qz.mk (hbox); have n2_ := Qz.mk ((zh hg : w.heap.size ≤ gb44)); have n3_ := n2_; clear HB; have HB := n0_; have BK44 := n1_; have GW44 := n2_; have GE44 := n3_; clear n0_ n1_ n2_ n3_; clear hb hbox hg) | ((with_reducible refine gate_dst (N := 4) rfl ?_); refine box_event ?hg (N := 4) ?hd (cs := #[.int .i64 0, .int .i64 0, .slice none 0 0, .slice none 0 0]) (t := 59) ?hr ?_; (case hd => rfl); (case hg => rfl); (case hr => exact yn2); intro gb43 hg w37 hbox hb; have n0_ := Qz.mk (Qi (g := gb44) (o := .cells #[.slice A0_0 l0_0.length c0_0, .slice A0_1 l0_1.length c0_1] 27 (0, 0)) zk hb); have n1_ := Qz.mk (Qq zb hb); have n2_ := Qz.mk (hbox); have n3_ := Qz.mk ((zh hg : w.heap.size ≤ gb43)); have n4_ := n3_; have n5_ := Qz.mk ((yn0 : gb44 ≠ gb43)); have n6_ := Qz.mk ((yn1 : gb43 ≠ gb44)); clear BK44; clear HB; have BK44 := n0_; have HB := n1_; have BK43 := n2_; have GW43 := n3_; have GE43 := n4_; have NB883_884 := n5_; have NB884_883 := n6_; clear n0_ n1_ n2_ n3_ n4_ n5_ n6_; clear hb hbox hg; have hnb38 := NB883_884.out; have hnc38 := NB884_883.out; obtain ⟨z39_0, z39_1, j39_0, j39_1⟩ := Lv.blks2 BK44.out) | ((with_reducible refine gate_callee (f := 12) rfl ?_); refine Qat (some 8) rfl rfl Try.func12 (by kernel_rfl) rfl #[.agg #[.slice A0_0 l0_0.length c0_0, .slice A0_1 l0_1.length c0_1]] rfl zm ?_; (with_reducible refine (ZsLogFault.calls k _ _ l0_0 _ _ l0_1 t48 _ ?side1 ?side2 ?side3 ?side4 A3.out).mono ?_); (case side1 => exact zc (Kd.Qac HR0_0.out HB.out)); (case side2 => exact HC0_0.out); (case side3 => exact zc (Kd.Qac HR0_1.out HB.out)); (case side4 => exact HC0_1.out); rintro e w40 ⟨rfl, hb⟩; refine ⟨_, rfl, ?_⟩; have n0_ := Qz.mk (Qi (g := gb44) (o := .cells #[.slice A0_0 l0_0.length c0_0, .slice A0_1 l0_1.length c0_1] 27 (0, 0)) zk hb); have n1_ := Qz.mk (Qi (g := gb43) (o := .cells #[.int .i64 0, .int .i64 0, .slice none 0 0, .slice none 0 0] 59 (0, 0)) zk hb); have n2_ := Qz.mk (Qq zb hb); clear BK44; clear BK43; clear HB; have BK44 := n0_; have BK43 := n1_; have HB := n2_; clear n0_ n1_ n2_; (try clear hb); (try clear hb2); (try clear hk); (try clear hi); obtain ⟨z41_0, z41_1, z41_2, z41_3, j41_0, j41_1, j41_2, j41_3⟩ := Lv.blks4 BK43.out))
 refine bodyPost_ret (results_cell_row rfl _ _ gb43 59 #[.int .i64 t48, .int .i64 0, .slice none 0 0, .slice none 0 0] (0, 0) _ rfl (by refine zQ ?_; refine Qk (cs := #[.int .i64 t48, .int .i64 0, .slice none 0 0, .slice none 0 0]) ?_ 3 _ rfl; refine zQ ?_; refine Qk (cs := #[.int .i64 t48, .int .i64 0, .slice none 0 0, .slice none 0 0]) ?_ 2 _ rfl; refine zQ ?_; refine Qk (cs := #[.int .i64 t48, .int .i64 0, .slice none 0 0, .slice none 0 0]) ?_ 1 _ rfl; refine zQ ?_; refine Qk (cs := #[.int .i64 0, .int .i64 0, .slice none 0 0, .slice none 0 0]) ?_ 0 _ rfl; refine zQ ?_; exact BK43.out) Try.underlying59 rfl (by kernel_rfl)) rfl ?_
 exact ⟨_, _, ze, by first | exact Kd.R_nil _ _ _ _ _ | exact Kd.N_nil _ _ _ _ _ | exact Kd.V_nil _ _ _ _ _ | exact Kd.Q_nil _ _ _ _ _ | exact Kd.S_nil _ _ _ _ _, by first | exact Kd.R_nil _ _ _ _ _ | exact Kd.N_nil _ _ _ _ _ | exact Kd.V_nil _ _ _ _ _ | exact Kd.Q_nil _ _ _ _ _ | exact Kd.S_nil _ _ _ _ _, zb⟩
end Go.Proofs.Ythagppmaofcllaa.P
