import Derived.Test.YthagppmaofcllaaZz
import Derived.Test.YthagppmaofcllaaP0
import Derived.Test.YthagppmaofcllaaPCadefgh1
import Derived.Test.YthagppmaofcllaaPDadefgh0
import Derived.Test.YthagppmaofcllaaPDm1
import Derived.Test.YthagppmaofcllaaWRepsOne
import Derived.Test.YthagppmaofcllaaWTab
import Derived.Test.YthagppmaofcllaaLv
namespace Go.Proofs.Ythagppmaofcllaa.P
open Go.RowKit Go.Proofs.YthagppmaofcllaaW.PrintWords Go.Proofs.YthagppmaofcllaaW.PrintLast Go.Proofs.YthagppmaofcllaaW.PrintMore
attribute [local go_sem] max2_int min2_int max_two min_two max_three min_three max_four min_four   -- for this text's walks alone
set_option linter.unusedVariables false
set_option linter.unusedSimpArgs false
theorem yp0 {p : Prop} (h : p := by first | exact HK.out.1 | exact (show Kept w _ (fun k_ => P0_0_ k_ ∨ P0_1_ k_) from by repeat (first | (with_reducible first | exact HK.out | apply Kept.alloc | apply Kept.drewN | apply Kept.drew | refine Kept.setCell ?_ (.inr GW38.out) _ | refine Kept.setCell ?_ (.inr GW36.out) _ | refine Kept.setCell ?_ (.inr GW35.out) _) | exact HK.out)).1) : p := h
theorem yp1 {p : Prop} (h : p := by first | (go_simp; done) | (go_simp; rfl)) : p := h
theorem yp2 {p : Prop} (h : p := by first | exact HK.out.1 | exact (show Kept w _ (fun k_ => P0_0_ k_ ∨ P0_1_ k_) from by repeat (first | (with_reducible first | exact HK.out | apply Kept.alloc | apply Kept.drewN | apply Kept.drew | refine Kept.setCell ?_ (.inr GW38.out) _ | refine Kept.setCell ?_ (.inr GW36.out) _ | refine Kept.setCell ?_ (.inr GW35.out) _ | refine Kept.setCell ?_ (.inr GW34.out) _) | exact HK.out)).1) : p := h
theorem yp3 {p : Prop} (h : p := by repeat (first | exact (Kd.Qac HR0_0.out HB.out) | (with_reducible first | refine Kd.Qaa ?_ _ | refine Kd.Qz ?_ _ | refine Kd.Qab ?_))) : p := h
theorem yp4 {p : Prop} (h : p := by repeat (first | (with_reducible first | exact HK.out | apply Kept.alloc | apply Kept.drewN | apply Kept.drew | refine Kept.setCell ?_ (.inr GW38.out) _ | refine Kept.setCell ?_ (.inr GW36.out) _ | refine Kept.setCell ?_ (.inr GW35.out) _ | refine Kept.setCell ?_ (.inr GW34.out) _) | exact HK.out)) : p := h
theorem yp5 {p : Prop} (h : p := by rw [hg]; exact Nat.ne_of_lt (Ql (g := gb38) (o := .cells #[.slice Ao7 l0_0.length co7, .slice Ao8 l0_1.length co8] 27 (0, 0)) zk)) : p := h
theorem yp6 {p : Prop} (h : p := by rw [hg]; exact Nat.ne_of_gt (Ql (g := gb38) (o := .cells #[.slice Ao7 l0_0.length co7, .slice Ao8 l0_1.length co8] 27 (0, 0)) zk)) : p := h
theorem yp7 {p : Prop} (h : p := by repeat (first | (with_reducible first | exact HK.out | apply Kept.alloc | apply Kept.drewN | apply Kept.drew | refine Kept.setCell ?_ (.inr GW38.out) _ | refine Kept.setCell ?_ (.inr GW36.out) _ | refine Kept.setCell ?_ (.inr GW35.out) _) | exact HK.out)) : p := h
theorem yp8 {p : Prop} (h : p := by rw [hg]; exact Nat.ne_of_lt (Ql (g := gb36) (o := .cells #[.int .i64 a1_0, .int .i64 a1_1, .int .i64 a1_2, .bool a1_3, .int .i64 a1_4, .bool a1_5, .int .i64 a1_6, .int .i64 a1_7] 48 (0, 0)) zk)) : p := h
theorem yp9 {p : Prop} (h : p := by rw [hg]; exact Nat.ne_of_gt (Ql (g := gb36) (o := .cells #[.int .i64 a1_0, .int .i64 a1_1, .int .i64 a1_2, .bool a1_3, .int .i64 a1_4, .bool a1_5, .int .i64 a1_6, .int .i64 a1_7] 48 (0, 0)) zk)) : p := h
theorem yp10 {p : Prop} (h : p := by simp only [putAll, Act.put, List.setIfInBounds_toArray, List.set_cons_zero, List.set_cons_succ]) : p := h
theorem yp11 {p : Prop} (h : p := by refine zR ?_; exact Kd.Qw HO21.out (fun _ hk => hk.2)) : p := h
def Zsl3Copy.T1 : Bool × List (List Nat × List Nat) := (true, [([], []), ([], []), ([1], [1]), ([0, 2], [0, 2]), ([], []), ([], []), ([5], [5]), ([4, 6, 3], [4, 6]), ([3, 7], [3, 7]), ([8, 7, 0, 1, 2, 3, 4, 5, 6, 7, 8], [8])])
def Zsl3Copy.B1 : List Nat := [0, 0, 2, 7, 0, 0, 32, 127, 255, 511]
theorem Zsl3Copy.tab1 : rtab .any (opsOf Try.f103 1) = Zsl3Copy.T1 := by kernel_rfl
theorem Zsl3Copy.bits1 : waitsOk Zsl3Copy.T1.2 Zsl3Copy.B1 = true := by kernel_rfl
set_option maxHeartbeats 8000000 in
set_option maxRecDepth 100000 in
theorem Zsl3Copy.calls (A0_0 : Option Addr) (c0_0 : Nat) (l0_0 : List Int) (A0_1 : Option Addr) (c0_1 : Nat) (l0_1 : List Int) (r1 : List Int) (r2 : List Int) (w : World) (hr0_0 : Kd.C (Kd.int .u8) w A0_0 l0_0.length l0_0) (hc0_0 : l0_0.length ≤ c0_0) (hr0_1 : Kd.C (Kd.int .u8) w A0_1 l0_1.length l0_1) (hc0_1 : l0_1.length ≤ c0_1) (h : Zsl3Copy.f l0_0 l0_1 = some (r1, r2)) :
 Calls Try.prog 103 #[.agg #[.slice A0_0 l0_0.length c0_0, .slice A0_1 l0_1.length c0_1]] w fun e w' => ∃ v0_ v1_ : Value, e = .returned (.agg #[v0_, v1_]) ∧ Kd.R (Kd.int .u8) 5 w' w.heap.size (fun k_ => some k_ ≠ (v1_ : Value).ownBlock) v0_ r1 ∧ Kd.R (Kd.int .u8) 5 w' w.heap.size (fun k_ => some k_ ≠ (v0_ : Value).ownBlock) v1_ r2 ∧ Below w.heap.size w w' := by
 have hu27 := Try.underlying27
 have HR0_0 := Qz.mk hr0_0
 have HC0_0 := Qz.mk hc0_0
 clear hr0_0 hc0_0
 have HR0_1 := Qz.mk hr0_1
 have HC0_1 := Qz.mk hc0_1
 clear hr0_1 hc0_1
 have HB := Qz.mk (Below.refl w.heap.size w)
 have H : ((some (([] : List Int) : List Int)).bind fun y23 => (if y23.length + l0_0.length < 140737488355328 then ((some (([] : List Int) : List Int)).bind fun y20 => (if y20.length + l0_1.length < 140737488355328 then (some ((y23 ++ l0_0), (y20 ++ l0_1))) else (none))) else (none))) = some (r1, r2) := h
 clear h
 obtain ⟨y23, hy23⟩ : ∃ y_ : List Int, y_ = (([] : List Int)) := ⟨_, rfl⟩
 replace H : (if y23.length + l0_0.length < 140737488355328 then ((some (([] : List Int) : List Int)).bind fun y20 => (if y20.length + l0_1.length < 140737488355328 then (some ((y23 ++ l0_0), (y20 ++ l0_1))) else (none))) else (none)) = some (r1, r2) := by first | (rw [hy23]; with_reducible exact H) | (have H2_ := (Option.bind_some _ _).symm.trans H; rw [hy23]; with_reducible exact H2_) | (have H2_ := (Option.bind_some _ _).symm.trans H; with_reducible exact H2_) | with_reducible exact H | (rw [hy23]; exact H) | exact H
 have Ny23 := Qz.mk hy23
 clear hy23
 by_cases c2 : y23.length + l0_0.length < 140737488355328
 ·rw [if_pos c2] at H
  have LMc2 := Qz.mk c2
  clear c2
  obtain ⟨y24, hy24⟩ : ∃ y_ : List Int, y_ = (y23 ++ l0_0) := ⟨_, rfl⟩
  replace H : ((some (([] : List Int) : List Int)).bind fun y20 => (if y20.length + l0_1.length < 140737488355328 then (some (y24, (y20 ++ l0_1))) else (none))) = some (r1, r2) := by first | (rw [hy24]; with_reducible exact H) | (have H2_ := (Option.bind_some _ _).symm.trans H; rw [hy24]; with_reducible exact H2_) | (have H2_ := (Option.bind_some _ _).symm.trans H; with_reducible exact H2_) | with_reducible exact H | (rw [hy24]; exact H) | exact H
  have Ny24 := Qz.mk hy24
  clear hy24
  obtain ⟨y20, hy20⟩ : ∃ y_ : List Int, y_ = (([] : List Int)) := ⟨_, rfl⟩
  replace H : (if y20.length + l0_1.length < 140737488355328 then (some (y24, (y20 ++ l0_1))) else (none)) = some (r1, r2) := by first | (rw [hy20]; with_reducible exact H) | (have H2_ := (Option.bind_some _ _).symm.trans H; rw [hy20]; with_reducible exact H2_) | (have H2_ := (Option.bind_some _ _).symm.trans H; with_reducible exact H2_) | with_reducible exact H | (rw [hy20]; exact H) | exact H
  have Ny20 := Qz.mk hy20
  clear hy20
  by_cases c3 : y20.length + l0_1.length < 140737488355328
  ·rw [if_pos c3] at H
   have LMc3 := Qz.mk c3
   clear c3
   obtain ⟨y28, hy28⟩ : ∃ y_ : List Int, y_ = (y20 ++ l0_1) := ⟨_, rfl⟩
   replace H : (some (y24, y28)) = some (r1, r2) := by first | (rw [hy28]; with_reducible exact H) | (have H2_ := (Option.bind_some _ _).symm.trans H; rw [hy28]; with_reducible exact H2_) | (have H2_ := (Option.bind_some _ _).symm.trans H; with_reducible exact H2_) | with_reducible exact H | (rw [hy28]; exact H) | exact H
   have Ny28 := Qz.mk hy28
   clear hy28
   simp only [Option.some.injEq, Prod.mk.injEq] at H
   obtain ⟨rfl, rfl⟩ := H
   go_enter Try.func103, Try.ntmps103
   try go_wp2_with (first | ((with_reducible refine gate_dst (N := 1) rfl ?_); refine box_event ?hg (N := 1) ?hd (cs := #[.slice A0_0 l0_0.length c0_0, .slice A0_1 l0_1.length c0_1]) (t := 27) ?hr ?_; (case hd => rfl); (case hg => rfl); (case hr => exact yp1); intro gb18 hg w4 hbox hb; have n0_ := Qz.mk (Qq zb hb); have n1_ := Qz.mk (hbox); have n2_ := Qz.mk ((zh hg : w.heap.size ≤ gb18)); have n3_ := n2_; clear HB; have HB := n0_; have BK18 := n1_; have GW18 := n2_; have GE18 := n3_; clear n0_ n1_ n2_ n3_; clear hb hbox hg) | ((with_reducible refine gate_dst (N := 2) rfl ?_); refine box_event ?hg (N := 2) ?hd (cs := #[.slice none 0 0, .slice none 0 0]) (t := 27) ?hr ?_; (case hd => rfl); (case hg => rfl); (case hr => exact yp1); intro gb19 hg w5 hbox hb; have n0_ := Qz.mk (Qi (g := gb18) (o := .cells #[.slice A0_0 l0_0.length c0_0, .slice A0_1 l0_1.length c0_1] 27 (0, 0)) zk hb); have n1_ := Qz.mk (Qq zb hb); have n2_ := Qz.mk (hbox); have n3_ := Qz.mk ((zh hg : w.heap.size ≤ gb19)); have n4_ := n3_; have n5_ := Qz.mk ((by rw [hg]; exact Nat.ne_of_lt (Ql (g := gb18) (o := .cells #[.slice A0_0 l0_0.length c0_0, .slice A0_1 l0_1.length c0_1] 27 (0, 0)) zk) : gb18 ≠ gb19)); have n6_ := Qz.mk ((by rw [hg]; exact Nat.ne_of_gt (Ql (g := gb18) (o := .cells #[.slice A0_0 l0_0.length c0_0, .slice A0_1 l0_1.length c0_1] 27 (0, 0)) zk) : gb19 ≠ gb18)); clear BK18; clear HB; have BK18 := n0_; have HB := n1_; have BK19 := n2_; have GW19 := n3_; have GE19 := n4_; have NB984_985 := n5_; have NB985_984 := n6_; clear n0_ n1_ n2_ n3_ n4_ n5_ n6_; clear hb hbox hg))
   have n0_ := Qz.mk (Qg BK18.out)
   have n1_ := Qz.mk (Qg BK19.out)
   have n2_ := Qz.mk (Qb HB.out)
   clear BK18
   clear BK19
   clear HB
   have BK18 := n0_
   have BK19 := n1_
   have HB := n2_
   clear n0_ n1_ n2_
   refine start_ (n := 10) (S := fun w' => w'.cell? ⟨gb18, 0, none⟩ = some (.slice A0_0 l0_0.length c0_0) ∧ w'.cell? ⟨gb18, 1, none⟩ = some (.slice A0_1 l0_1.length c0_1)) (ds := []) #[Z, Z, Z, Z, Z, Z, Z, Z, Z, Z] (by kernel_rfl) rfl rfl ⟨(Qh BK18.out 0).trans rfl, (Qh BK18.out 1).trans rfl⟩ (fun hHeld => ?_); refine with_tabW Zsl3Copy.tab1 Zsl3Copy.bits1 (fun HT_ HW_ => ?_)
   generalize w5.drew = w6 at BK18 BK19 HB hHeld ⊢
   refine zp 1 4 ?_; refine zp 5 8 ?_; refine zt 2 5 ?_; refine zt 6 9 ?_
   refine join_ (σ := Value × Value × Value) 3 #[Y, Y, Y, Y, Y, Y, Y, Z, Z, Z] (fun s_ => [(3, s_.1), (6, s_.2.1), (7, s_.2.2)]) (fun s_ w' => (w'.cell? ⟨gb18, 0, none⟩ = some (.slice A0_0 l0_0.length c0_0) ∧ w'.cell? ⟨gb18, 1, none⟩ = some (.slice A0_1 l0_1.length c0_1)) ∧ (Kd.R (Kd.int .u8) 5 w' w.heap.size (fun k_ => some k_ ≠ (s_.2.2 : Value).ownBlock) s_.2.1 y24) ∧ (Kd.R (Kd.int .u8) 5 w' w.heap.size (fun k_ => some k_ ≠ (s_.2.1 : Value).ownBlock) s_.2.2 y20) ∧ (w'.heap[gb18]? = some (.cells #[.slice A0_0 l0_0.length c0_0, .slice A0_1 l0_1.length c0_1] 27 (0, 0))) ∧ (w'.heap[gb19]? = some (.cells #[.slice none 0 0, .slice none 0 0] 27 (0, 0))) ∧ (Below w.heap.size w w')) ?_ ?_
   rotate_left
   ·intro hCont
    refine two_ (i := 0) (j := 4) (Ni := some 3) (Nj := some 7) #[Y, Y, Y, Z, Z, Y, Y, Z, Z, Z] #[Z, Y, Y, Z, Y, Y, Y, Z, Z, Z] rfl rfl rfl rfl (two_of HT_.out (by kernel_rfl)) (by decide) (by decide) (fun K hK => ?_) (fun K hK => ?_)
    ·skip
     refine Kd.R_lit_step (Kd.int .u8) _ 5 ?hg (N := 3) ?hd (xs := ([] : List Int)) (inner := []) (ok := fun _ => True) (okp := fun _ => True) ?hr ?hp (fun _ hk => hk) trivial (Below.refl _ _) (Nat.le_refl _) (by simp) ?_; (case hd => rfl); (case hg => rfl); (case hr => exact yp1); (case hp => exact (Reps.none _ _))
     intro v31 w7 ho8 hb hg_ hnew_
     clear hg_ hnew_
     (first | rw [← Ny23.out] at ho8 | (simp only [Int.reduceToNat] at ho8; rw [← Ny23.out] at ho8))
     have n0_ := Qz.mk (Kd.Qan ho8 (Qp zb))
     have n1_ := Qz.mk (Qi (g := gb18) (o := .cells #[.slice A0_0 l0_0.length c0_0, .slice A0_1 l0_1.length c0_1] 27 (0, 0)) zk hb)
     have n2_ := Qz.mk (Qi (g := gb19) (o := .cells #[.slice none 0 0, .slice none 0 0] 27 (0, 0)) zk hb)
     have n3_ := Qz.mk (Qq zb hb)
     clear BK18
     clear BK19
     clear HB
     have HO25 := n0_
     have BK18 := n1_
     have BK19 := n2_
     have HB := n3_
     clear n0_ n1_ n2_ n3_
     clear hb ho8
     refine hK.out _ _ ⟨(Qh BK18.out 0).trans rfl, (Qh BK18.out 1).trans rfl⟩ (fun hHeld => ?_)
     clear hK K
     refine norm_ (a' := ?_) ?_ ?_
     rotate_left
     ·show Act.put _ (some 3) _ = _
      simp only [Act.put, List.setIfInBounds_toArray, List.set_cons_zero, List.set_cons_succ, Qar, Qas]
      rfl
     refine two_ (i := 3) (j := 4) (Ni := some 6) (Nj := some 7) #[Y, Y, Y, Y, Z, Y, Y, Z, Z, Z] #[Y, Y, Y, Z, Y, Y, Y, Z, Z, Z] rfl rfl rfl rfl (two_of HT_.out (by kernel_rfl)) (by decide) (by decide) (fun K hK => ?_) (fun K hK => ?_)
     ·skip
      refine Kd.R_append_rows_step (Kd.int .u8) (w0 := w) w.heap.size (by rfl) (.tmp 3) (.tmp 5) 22 5 (.int .u8 0) 1 rfl Try.underlying22 info5 rfl (by decide) (by omega) v31 y23 l0_0 _ _ _ (fun _ => True) (fun _ => False) rfl rfl ?aO ?aR (fun _ _ h => h) (fun _ h => h.elim) ?aF ?aB ?aS ?aL ?_
      (case aR => exact yp3)
      (case aB => exact zb)
      (case aF => exact (fun _ _ => trivial))
      (case aO => exact (zr HO25))
      (case aS => exact (Qp zb))
      (case aL => have := LMc2.out; omega)
      intro v30 w9 ho hb hg hat
      rw [← Ny24.out] at ho
      have n0_ := Qz.mk (blk_grown (g := gb18) (o := .cells #[.slice A0_0 l0_0.length c0_0, .slice A0_1 l0_1.length c0_1] 27 (0, 0)) zk hg (Kd.R_ne HO25.out BK18.out (by decide)))
      have n1_ := Qz.mk (blk_grown (g := gb19) (o := .cells #[.slice none 0 0, .slice none 0 0] 27 (0, 0)) zk hg (Kd.R_ne HO25.out BK19.out (by decide)))
      have n2_ := Qz.mk (hb)
      have n3_ := Qz.mk (ho)
      clear BK18
      clear BK19
      clear HB
      clear HO25
      have BK18 := n0_
      have BK19 := n1_
      have HB := n2_
      have HO26 := n3_
      clear n0_ n1_ n2_ n3_
      clear ho hb hg hat
      refine hK.out _ _ ⟨(Qh BK18.out 0).trans rfl, (Qh BK18.out 1).trans rfl⟩ (fun hHeld => ?_)
      clear hK K
      refine norm_ (a' := ?_) ?_ ?_
      rotate_left
      ·show Act.put _ (some 6) _ = _
       simp only [Act.put, List.setIfInBounds_toArray, List.set_cons_zero, List.set_cons_succ, Qar, Qas]
       rfl
      refine one_ (i := 4) (N := some 7) #[Y, Y, Y, Y, Y, Y, Y, Z, Z, Z] rfl rfl (one_of HT_.out (by kernel_rfl)) (by decide) (fun K hK => ?_)
      refine Kd.R_lit_step (Kd.int .u8) _ 5 ?hg (N := 7) ?hd (xs := ([] : List Int)) (inner := []) (ok := fun _ => True) (okp := fun _ => True) ?hr ?hp (fun _ hk => hk) trivial (Below.refl _ _) (Nat.le_refl _) (by simp) ?_; (case hd => rfl); (case hg => rfl); (case hr => exact yp1); (case hp => exact (Reps.none _ _))
      intro v29 w10 ho11 hb hg_ hnew_
      clear hg_ hnew_
      (first | rw [← Ny20.out] at ho11 | (simp only [Int.reduceToNat] at ho11; rw [← Ny20.out] at ho11))
      have n0_ := Qz.mk (Kd.R_elder' (zr HO26) (Kd.Qah ho11) hb)
      have n1_ := Qz.mk (Kd.Qan (Kd.Qal ho11 (Kd.R_lt (zr HO26))) (Qp zb))
      have n2_ := Qz.mk (Qi (g := gb18) (o := .cells #[.slice A0_0 l0_0.length c0_0, .slice A0_1 l0_1.length c0_1] 27 (0, 0)) zk hb)
      have n3_ := Qz.mk (Qi (g := gb19) (o := .cells #[.slice none 0 0, .slice none 0 0] 27 (0, 0)) zk hb)
      have n4_ := Qz.mk (Qq zb hb)
      clear HO26
      clear BK18
      clear BK19
      clear HB
      have HO26 := n0_
      have HO21 := n1_
      have BK18 := n2_
      have BK19 := n3_
      have HB := n4_
      clear n0_ n1_ n2_ n3_ n4_
      clear hb ho11
      refine hK.out _ _ ⟨(Qh BK18.out 0).trans rfl, (Qh BK18.out 1).trans rfl⟩ (fun hHeld => ?_)
      clear hK K
      refine norm_ (a' := ?_) ?_ ?_
      rotate_left
      ·show Act.put _ (some 7) _ = _
       simp only [Act.put, List.setIfInBounds_toArray, List.set_cons_zero, List.set_cons_succ, Qar, Qas]
       rfl
      exact norm_ yp10 (hCont (v31, v30, v29) _ ⟨hHeld, (by refine zR ?_; exact Kd.Qw HO26.out (fun _ hk => hk.2)), yp11, zk, zk, zb⟩)
     skip
     refine Kd.R_lit_step (Kd.int .u8) _ 5 ?hg (N := 7) ?hd (xs := ([] : List Int)) (inner := []) (ok := fun _ => True) (okp := fun _ => True) ?hr ?hp (fun _ hk => hk) trivial (Below.refl _ _) (Nat.le_refl _) (by simp) ?_; (case hd => rfl); (case hg => rfl); (case hr => exact yp1); (case hp => exact (Reps.none _ _))
     intro v29 w9 ho10 hb hg_ hnew_
     clear hg_ hnew_
     (first | rw [← Ny20.out] at ho10 | (simp only [Int.reduceToNat] at ho10; rw [← Ny20.out] at ho10))
     have n0_ := Qz.mk (Kd.R_elder' (zr HO25) (Kd.Qah ho10) hb)
     have n1_ := Qz.mk (Kd.Qan (Kd.Qal ho10 (Kd.R_lt (zr HO25))) (Qp zb))
     have n2_ := Qz.mk (Qi (g := gb18) (o := .cells #[.slice A0_0 l0_0.length c0_0, .slice A0_1 l0_1.length c0_1] 27 (0, 0)) zk hb)
     have n3_ := Qz.mk (Qi (g := gb19) (o := .cells #[.slice none 0 0, .slice none 0 0] 27 (0, 0)) zk hb)
     have n4_ := Qz.mk (Qq zb hb)
     clear HO25
     clear BK18
     clear BK19
     clear HB
     have HO25 := n0_
     have HO21 := n1_
     have BK18 := n2_
     have BK19 := n3_
     have HB := n4_
     clear n0_ n1_ n2_ n3_ n4_
     clear hb ho10
     refine hK.out _ _ ⟨(Qh BK18.out 0).trans rfl, (Qh BK18.out 1).trans rfl⟩ (fun hHeld => ?_)
     clear hK K
     refine norm_ (a' := ?_) ?_ ?_
     rotate_left
     ·show Act.put _ (some 7) _ = _
      simp only [Act.put, List.setIfInBounds_toArray, List.set_cons_zero, List.set_cons_succ, Qar, Qas]
      rfl
     refine one_ (i := 3) (N := some 6) #[Y, Y, Y, Y, Y, Y, Y, Z, Z, Z] rfl rfl (one_of HT_.out (by kernel_rfl)) (by decide) (fun K hK => ?_)
     refine Kd.R_append_rows_step (Kd.int .u8) (w0 := w) w.heap.size (by rfl) (.tmp 3) (.tmp 5) 22 5 (.int .u8 0) 1 rfl Try.underlying22 info5 rfl (by decide) (by omega) v31 y23 l0_0 _ _ _ (fun k_ => some k_ ≠ (v29 : Value).ownBlock) (fun _ => False) rfl rfl ?aO ?aR (fun _ _ h => h) (fun _ h => h.elim) ?aF ?aB ?aS ?aL ?_
     (case aR => exact yp3)
     (case aB => exact zb)
     (case aF => exact (fun k_ hk => Kd.fresh' (Kd.R_lt (zr HO21)) k_ hk))
     (case aO => exact (by refine zR ?_; exact Kd.Qw HO25.out (fun _ hk => hk.2)))
     (case aS => exact (Qp zb))
     (case aL => have := LMc2.out; omega)
     intro v30 w11 ho hb hg hat
     rw [← Ny24.out] at ho
     have n0_ := Qz.mk (blk_grown (g := gb18) (o := .cells #[.slice A0_0 l0_0.length c0_0, .slice A0_1 l0_1.length c0_1] 27 (0, 0)) zk hg (Kd.R_ne HO25.out BK18.out (by decide)))
     have n1_ := Qz.mk (blk_grown (g := gb19) (o := .cells #[.slice none 0 0, .slice none 0 0] 27 (0, 0)) zk hg (Kd.R_ne HO25.out BK19.out (by decide)))
     have n2_ := Qz.mk (Kd.R_after (ok := (fun _ => True)) (zr HO21) hg hat)
     have n3_ := Qz.mk (hb)
     have n4_ := Qz.mk (ho)
     clear BK18
     clear BK19
     clear HO21
     clear HB
     clear HO25
     have BK18 := n0_
     have BK19 := n1_
     have HO21 := n2_
     have HB := n3_
     have HO26 := n4_
     clear n0_ n1_ n2_ n3_ n4_
     clear ho hb hg hat
     refine hK.out _ _ ⟨(Qh BK18.out 0).trans rfl, (Qh BK18.out 1).trans rfl⟩ (fun hHeld => ?_)
     clear hK K
     refine norm_ (a' := ?_) ?_ ?_
     rotate_left
     ·show Act.put _ (some 6) _ = _
      simp only [Act.put, List.setIfInBounds_toArray, List.set_cons_zero, List.set_cons_succ, Qar, Qas]
      rfl
     exact norm_ yp10 (hCont (v31, v30, v29) _ ⟨hHeld, (zr HO26), yp11, zk, zk, zb⟩)
    skip
    refine Kd.R_lit_step (Kd.int .u8) _ 5 ?hg (N := 7) ?hd (xs := ([] : List Int)) (inner := []) (ok := fun _ => True) (okp := fun _ => True) ?hr ?hp (fun _ hk => hk) trivial (Below.refl _ _) (Nat.le_refl _) (by simp) ?_; (case hd => rfl); (case hg => rfl); (case hr => exact yp1); (case hp => exact (Reps.none _ _))
    intro v29 w7 ho8 hb hg_ hnew_
    clear hg_ hnew_
    (first | rw [← Ny20.out] at ho8 | (simp only [Int.reduceToNat] at ho8; rw [← Ny20.out] at ho8))
    have n0_ := Qz.mk (Kd.Qan ho8 (Qp zb))
    have n1_ := Qz.mk (Qi (g := gb18) (o := .cells #[.slice A0_0 l0_0.length c0_0, .slice A0_1 l0_1.length c0_1] 27 (0, 0)) zk hb)
    have n2_ := Qz.mk (Qi (g := gb19) (o := .cells #[.slice none 0 0, .slice none 0 0] 27 (0, 0)) zk hb)
    have n3_ := Qz.mk (Qq zb hb)
    clear BK18
    clear BK19
    clear HB
    have HO21 := n0_
    have BK18 := n1_
    have BK19 := n2_
    have HB := n3_
    clear n0_ n1_ n2_ n3_
    clear hb ho8
    refine hK.out _ _ ⟨(Qh BK18.out 0).trans rfl, (Qh BK18.out 1).trans rfl⟩ (fun hHeld => ?_)
    clear hK K
    refine norm_ (a' := ?_) ?_ ?_
    rotate_left
    ·show Act.put _ (some 7) _ = _
     simp only [Act.put, List.setIfInBounds_toArray, List.set_cons_zero, List.set_cons_succ, Qar, Qas]
     rfl
    refine one_ (i := 0) (N := some 3) #[Y, Y, Y, Z, Y, Y, Y, Z, Z, Z] rfl rfl (one_of HT_.out (by kernel_rfl)) (by decide) (fun K hK => ?_)
    refine Kd.R_lit_step (Kd.int .u8) _ 5 ?hg (N := 3) ?hd (xs := ([] : List Int)) (inner := []) (ok := fun _ => True) (okp := fun _ => True) ?hr ?hp (fun _ hk => hk) trivial (Below.refl _ _) (Nat.le_refl _) (by simp) ?_; (case hd => rfl); (case hg => rfl); (case hr => exact yp1); (case hp => exact (Reps.none _ _))
    intro v31 w9 ho10 hb hg_ hnew_
    clear hg_ hnew_
    (first | rw [← Ny23.out] at ho10 | (simp only [Int.reduceToNat] at ho10; rw [← Ny23.out] at ho10))
    have n0_ := Qz.mk (Kd.R_elder' (zr HO21) (Kd.Qah ho10) hb)
    have n1_ := Qz.mk (Kd.Qan (Kd.Qal ho10 (Kd.R_lt (zr HO21))) (Qp zb))
    have n2_ := Qz.mk (Qi (g := gb18) (o := .cells #[.slice A0_0 l0_0.length c0_0, .slice A0_1 l0_1.length c0_1] 27 (0, 0)) zk hb)
    have n3_ := Qz.mk (Qi (g := gb19) (o := .cells #[.slice none 0 0, .slice none 0 0] 27 (0, 0)) zk hb)
    have n4_ := Qz.mk (Qq zb hb)
    clear HO21
    clear BK18
    clear BK19
    clear HB
    have HO21 := n0_
    have HO25 := n1_
    have BK18 := n2_
    have BK19 := n3_
    have HB := n4_
    clear n0_ n1_ n2_ n3_ n4_
    clear hb ho10
    refine hK.out _ _ ⟨(Qh BK18.out 0).trans rfl, (Qh BK18.out 1).trans rfl⟩ (fun hHeld => ?_)
    clear hK K
    refine norm_ (a' := ?_) ?_ ?_
    rotate_left
    ·show Act.put _ (some 3) _ = _
     simp only [Act.put, List.setIfInBounds_toArray, List.set_cons_zero, List.set_cons_succ, Qar, Qas]
     rfl
    refine one_ (i := 3) (N := some 6) #[Y, Y, Y, Y, Y, Y, Y, Z, Z, Z] rfl rfl (one_of HT_.out (by kernel_rfl)) (by decide) (fun K hK => ?_)
    refine Kd.R_append_rows_step (Kd.int .u8) (w0 := w) w.heap.size (by rfl) (.tmp 3) (.tmp 5) 22 5 (.int .u8 0) 1 rfl Try.underlying22 info5 rfl (by decide) (by omega) v31 y23 l0_0 _ _ _ (fun k_ => some k_ ≠ (v29 : Value).ownBlock) (fun _ => False) rfl rfl ?aO ?aR (fun _ _ h => h) (fun _ h => h.elim) ?aF ?aB ?aS ?aL ?_
    (case aR => exact yp3)
    (case aB => exact zb)
    (case aF => exact (fun k_ hk => Kd.fresh' (Kd.R_lt (zr HO21)) k_ hk))
    (case aO => exact (by refine zR ?_; exact Kd.Qw HO25.out (fun _ hk => hk.2)))
    (case aS => exact (Qp zb))
    (case aL => have := LMc2.out; omega)
    intro v30 w11 ho hb hg hat
    rw [← Ny24.out] at ho
    have n0_ := Qz.mk (blk_grown (g := gb18) (o := .cells #[.slice A0_0 l0_0.length c0_0, .slice A0_1 l0_1.length c0_1] 27 (0, 0)) zk hg (Kd.R_ne HO25.out BK18.out (by decide)))
    have n1_ := Qz.mk (blk_grown (g := gb19) (o := .cells #[.slice none 0 0, .slice none 0 0] 27 (0, 0)) zk hg (Kd.R_ne HO25.out BK19.out (by decide)))
    have n2_ := Qz.mk (Kd.R_after (ok := (fun _ => True)) (zr HO21) hg hat)
    have n3_ := Qz.mk (hb)
    have n4_ := Qz.mk (ho)
    clear BK18
    clear BK19
    clear HO21
    clear HB
    clear HO25
    have BK18 := n0_
    have BK19 := n1_
    have HO21 := n2_
    have HB := n3_
    have HO26 := n4_
    clear n0_ n1_ n2_ n3_ n4_
    clear ho hb hg hat
    refine hK.out _ _ ⟨(Qh BK18.out 0).trans rfl, (Qh BK18.out 1).trans rfl⟩ (fun hHeld => ?_)
    clear hK K
    refine norm_ (a' := ?_) ?_ ?_
    rotate_left
    ·show Act.put _ (some 6) _ = _
     simp only [Act.put, List.setIfInBounds_toArray, List.set_cons_zero, List.set_cons_succ, Qar, Qas]
     rfl
    exact norm_ yp10 (hCont (v31, v30, v29) _ ⟨hHeld, (zr HO26), yp11, zk, zk, zb⟩)
   rintro ⟨v31, v30, v29⟩ w12 ⟨hS_, h0_, h1_, h2_, h3_, h4_⟩
   have n0_ : Qz (Kd.R (Kd.int .u8) 5 w12 w.heap.size (fun k_ => some k_ ≠ (v29 : Value).ownBlock) v30 y24) := ⟨h0_⟩
   have n1_ : Qz (Kd.R (Kd.int .u8) 5 w12 w.heap.size (fun k_ => some k_ ≠ (v30 : Value).ownBlock) v29 y20) := ⟨h1_⟩
   have n2_ : Qz (w12.heap[gb18]? = some (.cells #[.slice A0_0 l0_0.length c0_0, .slice A0_1 l0_1.length c0_1] 27 (0, 0))) := ⟨h2_⟩
   have n3_ : Qz (w12.heap[gb19]? = some (.cells #[.slice none 0 0, .slice none 0 0] 27 (0, 0))) := ⟨h3_⟩
   have n4_ : Qz (Below w.heap.size w w12) := ⟨h4_⟩
   clear BK18
   clear BK19
   clear HB
   clear h0_ h1_ h2_ h3_ h4_
   have HO26 := n0_
   have HO21 := n1_
   have BK18 := n2_
   have BK19 := n3_
   have HB := n4_
   clear n0_ n1_ n2_ n3_ n4_
   have hHeld : w12.cell? ⟨gb18, 0, none⟩ = some (.slice A0_0 l0_0.length c0_0) ∧ w12.cell? ⟨gb18, 1, none⟩ = some (.slice A0_1 l0_1.length c0_1) := hS_
   refine norm_ (a' := ?_) ?_ ?_
   rotate_left
   ·simp only [putAll, Act.put, List.setIfInBounds_toArray, List.set_cons_zero, List.set_cons_succ]
    rfl
   refine one_ (i := 7) (N := some 10) #[Y, Y, Y, Y, Y, Y, Y, Y, Z, Z] rfl rfl (one_of HT_.out (by kernel_rfl)) (by decide) (fun K hK => ?_)
   refine Kd.R_append_rows_step (Kd.int .u8) (w0 := w) w.heap.size (by rfl) (.tmp 7) (.tmp 9) 22 5 (.int .u8 0) 1 rfl Try.underlying22 info5 rfl (by decide) (by omega) v29 y20 l0_1 _ _ _ (fun k_ => some k_ ≠ (v30 : Value).ownBlock) (fun _ => False) rfl rfl ?aO ?aR (fun _ _ h => h) (fun _ h => h.elim) ?aF ?aB ?aS ?aL ?_
   (case aR => repeat (first | exact (Kd.Qac HR0_1.out HB.out) | (with_reducible first | refine Kd.Qaa ?_ _ | refine Kd.Qz ?_ _ | refine Kd.Qab ?_)))
   (case aB => exact zb)
   (case aF => exact (fun k_ hk => Kd.fresh' (Kd.R_lt (zr HO26)) k_ hk))
   (case aO => exact (zr HO21))
   (case aS => exact (Qp zb))
   (case aL => have := LMc3.out; omega)
   intro v34 w13 ho hb hg hat
   rw [← Ny28.out] at ho
   have n0_ := Qz.mk (blk_grown (g := gb18) (o := .cells #[.slice A0_0 l0_0.length c0_0, .slice A0_1 l0_1.length c0_1] 27 (0, 0)) zk hg (Kd.R_ne HO21.out BK18.out (by decide)))
   have n1_ := Qz.mk (blk_grown (g := gb19) (o := .cells #[.slice none 0 0, .slice none 0 0] 27 (0, 0)) zk hg (Kd.R_ne HO21.out BK19.out (by decide)))
   have n2_ := Qz.mk (Kd.R_after (ok := (fun _ => True)) (by refine zR ?_; exact Kd.Qw HO26.out (fun _ hk => ⟨trivial, hk⟩)) hg hat)
   have n3_ := Qz.mk (hb)
   have n4_ := Qz.mk (ho)
   clear BK18
   clear BK19
   clear HO26
   clear HB
   clear HO21
   have BK18 := n0_
   have BK19 := n1_
   have HO26 := n2_
   have HB := n3_
   have HO33 := n4_
   clear n0_ n1_ n2_ n3_ n4_
   clear ho hb hg hat
   obtain ⟨Ao14, co14, eo14⟩ := Kd.R_slice HO33.out
   (first | subst eo14 | (injection eo14 with f1_ f2_ f3_; have f4_ := f1_.symm; have f5_ := f3_.symm; clear f1_ f2_ f3_; subst f4_; subst f5_))
   obtain ⟨Ao15, co15, eo15⟩ := Kd.R_slice HO26.out
   (first | subst eo15 | (injection eo15 with f1_ f2_ f3_; have f4_ := f1_.symm; have f5_ := f3_.symm; clear f1_ f2_ f3_; subst f4_; subst f5_))
   refine hK.out _ _ ⟨(Qh BK18.out 0).trans rfl, (Qh BK18.out 1).trans rfl⟩ (fun hHeld => ?_)
   clear hK K
   refine norm_ (a' := ?_) ?_ ?_
   rotate_left
   ·show Act.put _ (some 10) _ = _
    simp only [Act.put, List.setIfInBounds_toArray, List.set_cons_zero, List.set_cons_succ, Qar, Qas]
    rfl
   refine zp 8 11 ?_
   refine one_ (i := 9) (N := none) #[Y, Y, Y, Y, Y, Y, Y, Y, Y, Y] rfl rfl (one_of HT_.out (by kernel_rfl)) (by decide) (fun K hK => ?_)
   have hs16 : w13.cell? ⟨gb19, 0, none⟩ = some (.slice none 0 0) := (Qh BK19.out 0).trans rfl
   have hfs16 := Qj BK19.out 0
   have hns16_0 := NB984_985.out
   have hms16_0 := NB985_984.out
   have hs17 : w13.cell? ⟨gb19, 1, none⟩ = some (.slice none 0 0) := (Qh BK19.out 1).trans rfl
   have hfs17 := Qj BK19.out 1
   have hns17_0 := NB984_985.out
   have hms17_0 := NB985_984.out
   refine skip_ (w1 := ?_) (by rfl) rfl ?_ ?_
   rotate_left
   ·go_simp
    rfl
   refine hK.out _ _ ⟨((Qaq (p := ⟨gb19, _, none⟩) NB984_985.out _).trans (((Qaq (p := ⟨gb19, _, none⟩) NB984_985.out _).trans (hHeld.1)))), ((Qaq (p := ⟨gb19, _, none⟩) NB984_985.out _).trans (((Qaq (p := ⟨gb19, _, none⟩) NB984_985.out _).trans (hHeld.2))))⟩ (fun hHeld => ?_)
   clear hK K
   refine done_ (done_of HT_.out (by kernel_rfl)) ?_
   try go_wp2
   refine bodyPost_ret (results_cell_row rfl _ _ gb19 27 #[.slice Ao15 y24.length co15, .slice Ao14 y28.length co14] (0, 0) _ rfl (by refine zQ ?_; refine Qk (cs := #[.slice Ao15 y24.length co15, .slice none 0 0]) ?_ 1 _ rfl; refine zQ ?_; refine Qk (cs := #[.slice none 0 0, .slice none 0 0]) ?_ 0 _ rfl; refine zQ ?_; exact BK19.out) Try.underlying27 rfl (by kernel_rfl)) rfl ?_
   exact ⟨_, _, ze, by refine zR ?_; exact Kd.Qw (Kd.Qx (p := ⟨gb19, 1, none⟩) (Kd.Qx (p := ⟨gb19, 0, none⟩) (Kd.Qai HO26.out BK19.out (by decide)) (fun _ hk => hk.2) (.slice Ao15 y24.length co15)) (fun _ hk => hk.2) (.slice Ao14 y28.length co14)) (fun _ hk => hk.1.2), by refine zR ?_; exact Kd.Qw (Kd.Qx (p := ⟨gb19, 1, none⟩) (Kd.Qx (p := ⟨gb19, 0, none⟩) (Kd.Qai HO33.out BK19.out (by decide)) (fun _ hk => hk.2) (.slice Ao15 y24.length co15)) (fun _ hk => hk.2) (.slice Ao14 y28.length co14)) (fun _ hk => hk.1), zb⟩
  rw [if_neg c3] at H
  exact absurd H (by simp)
 rw [if_neg c2] at H
 exact absurd H (by simp)
set_option maxHeartbeats 40000000 in
set_option maxRecDepth 100000 in
theorem Zsl3Append.calls (k : Nat) (P0_0_ : Nat → Prop) (u9000_ : Value) (l0_0 : List Int) (P0_1_ : Nat → Prop) (u9001_ : Value) (l0_1 : List Int) (a1_0 : Int) (a1_1 : Int) (a1_2 : Int) (a1_3 : Bool) (a1_4 : Int) (a1_5 : Bool) (a1_6 : Int) (a1_7 : Int) (r1 : List Int) (r2 : List Int) (r3 : Int) (w0 w : World) (hB : Below w0.heap.size w0 w) (ho0_0 : Kd.R (Kd.int .u8) 5 w w0.heap.size P0_0_ u9000_ l0_0) (hp0_0_0_1 : ∀ k_, P0_0_ k_ → ¬ P0_1_ k_) (ho0_1 : Kd.R (Kd.int .u8) 5 w w0.heap.size P0_1_ u9001_ l0_1) (hp0_1_0_0 : ∀ k_, P0_1_ k_ → ¬ P0_0_ k_) (h : Zsl3Append.f k l0_0 l0_1 a1_0 a1_1 a1_2 a1_3 a1_4 a1_5 a1_6 a1_7 = some (r1, r2, r3)) :
 Calls Try.prog 93 #[.agg #[u9000_, u9001_], .agg #[.int .i64 a1_0, .int .i64 a1_1, .int .i64 a1_2, .bool a1_3, .int .i64 a1_4, .bool a1_5, .int .i64 a1_6, .int .i64 a1_7]] w fun e w' => ∃ v0_ v1_ : Value, e = .returned (.tuple #[.agg #[v0_, v1_], .int .i64 r3]) ∧ Kd.R (Kd.int .u8) 5 w' w0.heap.size (fun k_ => ((P0_0_ k_ ∨ P0_1_ k_) ∨ w.heap.size ≤ k_) ∧ some k_ ≠ (v1_ : Value).ownBlock) v0_ r1 ∧ Kd.R (Kd.int .u8) 5 w' w0.heap.size (fun k_ => ((P0_0_ k_ ∨ P0_1_ k_) ∨ w.heap.size ≤ k_) ∧ some k_ ≠ (v0_ : Value).ownBlock) v1_ r2 ∧ Below w0.heap.size w0 w' ∧ Kept w w' (fun k_ => P0_0_ k_ ∨ P0_1_ k_) := by
 have hu27 := Try.underlying27
 have hu48 := Try.underlying48
 have HO0_0 := Qz.mk (show Kd.R (Kd.int .u8) 5 w w0.heap.size (fun k_ => ((P0_0_ k_ ∨ P0_1_ k_) ∨ w.heap.size ≤ k_) ∧ some k_ ≠ (u9001_ : Value).ownBlock) u9000_ l0_0 from Kd.Qw ho0_0 (fun k_ hk => ⟨(.inl (.inl hk)), fun e_ => hp0_0_0_1 k_ hk (ho0_1.1 k_ e_.symm)⟩))
 have HO0_1 := Qz.mk (show Kd.R (Kd.int .u8) 5 w w0.heap.size (fun k_ => ((P0_0_ k_ ∨ P0_1_ k_) ∨ w.heap.size ≤ k_) ∧ some k_ ≠ (u9000_ : Value).ownBlock) u9001_ l0_1 from Kd.Qw ho0_1 (fun k_ hk => ⟨(.inl (.inr hk)), fun e_ => hp0_1_0_0 k_ hk (ho0_0.1 k_ e_.symm)⟩))
 have HK := Qz.mk (Kept.refl w (fun k_ => P0_0_ k_ ∨ P0_1_ k_))
 have HW0 := Qz.mk hB.size
 have HB := Qz.mk hB
 clear hB
 have H : ((Zsl3Copy.f l0_0 l0_1).bind fun bt37 => ((Zsl3Pack.f k a1_0 a1_1 a1_2 a1_3 a1_4 a1_5 a1_6 a1_7).bind fun t44 => (if bt37.2.length + t44.length < 140737488355328 then ((some (bt37.2 ++ t44 : List Int)).bind fun y41 => (if (wrap64 ((bt37.1.length : Int) + (y41.length : Int))) > 4000 then (some (l0_0, l0_1, 2)) else (some (bt37.1, y41, 0)))) else (none)))) = some (r1, r2, r3) := h
 clear h
 replace H := Option.bind_eq_some_iff.mp H
 obtain ⟨⟨t37, t39⟩, A30, H⟩ := H
 replace H : ((Zsl3Pack.f k a1_0 a1_1 a1_2 a1_3 a1_4 a1_5 a1_6 a1_7).bind fun t44 => (if t39.length + t44.length < 140737488355328 then ((some (t39 ++ t44 : List Int)).bind fun y41 => (if (wrap64 ((t37.length : Int) + (y41.length : Int))) > 4000 then (some (l0_0, l0_1, 2)) else (some (t37, y41, 0)))) else (none))) = some (r1, r2, r3) := H
 have A3 := Qz.mk A30
 clear A30
 replace H := Option.bind_eq_some_iff.mp H
 obtain ⟨t44, A40, H⟩ := H
 replace H : (if t39.length + t44.length < 140737488355328 then ((some (t39 ++ t44 : List Int)).bind fun y41 => (if (wrap64 ((t37.length : Int) + (y41.length : Int))) > 4000 then (some (l0_0, l0_1, 2)) else (some (t37, y41, 0)))) else (none)) = some (r1, r2, r3) := H
 have A4 := Qz.mk A40
 clear A40
 by_cases c5 : t39.length + t44.length < 140737488355328
 ·rw [if_pos c5] at H
  have LMc5 := Qz.mk c5
  clear c5
  obtain ⟨y41, hy41⟩ : ∃ y_ : List Int, y_ = (t39 ++ t44) := ⟨_, rfl⟩
  replace H : (if (wrap64 ((t37.length : Int) + (y41.length : Int))) > 4000 then (some (l0_0, l0_1, 2)) else (some (t37, y41, 0))) = some (r1, r2, r3) := by first | (rw [hy41]; with_reducible exact H) | (have H2_ := (Option.bind_some _ _).symm.trans H; rw [hy41]; with_reducible exact H2_) | (have H2_ := (Option.bind_some _ _).symm.trans H; with_reducible exact H2_) | with_reducible exact H | (rw [hy41]; exact H) | exact H
  have Ny41 := Qz.mk hy41
  clear hy41
  have HX_ := Qz.mk H
  clear H
  obtain ⟨Ao7, co7, eo7⟩ := Kd.R_slice HO0_0.out
  subst eo7
  obtain ⟨Ao8, co8, eo8⟩ := Kd.R_slice HO0_1.out
  subst eo8
  go_enter Try.func93, Try.ntmps93
  try go_wp2_with (first | ((with_reducible refine gate_dst (N := 2) rfl ?_); refine box_event ?hg (N := 2) ?hd (cs := #[.slice Ao7 l0_0.length co7, .slice Ao8 l0_1.length co8]) (t := 27) ?hr ?_; (case hd => rfl); (case hg => rfl); (case hr => exact yp1); intro gb38 hg w9 hbox hb; have n0_ := Qz.mk (Kd.Qy (zr HO0_0) hb); have n1_ := Qz.mk (Kd.Qy (zr HO0_1) hb); have n2_ := Qz.mk (Kept.below (S := (fun k_ => P0_0_ k_ ∨ P0_1_ k_)) (by repeat (first | (with_reducible first | exact HK.out | apply Kept.alloc | apply Kept.drewN | apply Kept.drew) | exact HK.out)) hb); have n3_ := Qz.mk (Qq zb hb); have n4_ := Qz.mk (hbox); have n5_ := Qz.mk ((by rw [hg]; exact (by first | exact HK.out.1 | exact (show Kept w _ (fun k_ => P0_0_ k_ ∨ P0_1_ k_) from by repeat (first | (with_reducible first | exact HK.out | apply Kept.alloc | apply Kept.drewN | apply Kept.drew) | exact HK.out)).1) : w.heap.size ≤ gb38)); have n6_ := Qz.mk ((zh hg : w0.heap.size ≤ gb38)); clear HO0_0; clear HO0_1; clear HK; clear HB; have HO0_0 := n0_; have HO0_1 := n1_; have HK := n2_; have HB := n3_; have BK38 := n4_; have GW38 := n5_; have GE38 := n6_; clear n0_ n1_ n2_ n3_ n4_ n5_ n6_; clear hb hbox hg) | ((with_reducible refine gate_dst (N := 3) rfl ?_); refine box_event ?hg (N := 3) ?hd (cs := #[.int .i64 a1_0, .int .i64 a1_1, .int .i64 a1_2, .bool a1_3, .int .i64 a1_4, .bool a1_5, .int .i64 a1_6, .int .i64 a1_7]) (t := 48) ?hr ?_; (case hd => rfl); (case hg => rfl); (case hr => exact yp1); intro gb36 hg w10 hbox hb; have n0_ := Qz.mk (Kd.Qy (zr HO0_0) hb); have n1_ := Qz.mk (Kd.Qy (zr HO0_1) hb); have n2_ := Qz.mk (Qi (g := gb38) (o := .cells #[.slice Ao7 l0_0.length co7, .slice Ao8 l0_1.length co8] 27 (0, 0)) zk hb); have n3_ := Qz.mk (Kept.below (S := (fun k_ => P0_0_ k_ ∨ P0_1_ k_)) (by repeat (first | (with_reducible first | exact HK.out | apply Kept.alloc | apply Kept.drewN | apply Kept.drew | refine Kept.setCell ?_ (.inr GW38.out) _) | exact HK.out)) hb); have n4_ := Qz.mk (Qq zb hb); have n5_ := Qz.mk (hbox); have n6_ := Qz.mk ((by rw [hg]; exact (by first | exact HK.out.1 | exact (show Kept w _ (fun k_ => P0_0_ k_ ∨ P0_1_ k_) from by repeat (first | (with_reducible first | exact HK.out | apply Kept.alloc | apply Kept.drewN | apply Kept.drew | refine Kept.setCell ?_ (.inr GW38.out) _) | exact HK.out)).1) : w.heap.size ≤ gb36)); have n7_ := Qz.mk ((zh hg : w0.heap.size ≤ gb36)); have n8_ := Qz.mk ((yp5 : gb38 ≠ gb36)); have n9_ := Qz.mk ((yp6 : gb36 ≠ gb38)); clear HO0_0; clear HO0_1; clear BK38; clear HK; clear HB; have HO0_0 := n0_; have HO0_1 := n1_; have BK38 := n2_; have HK := n3_; have HB := n4_; have BK36 := n5_; have GW36 := n6_; have GE36 := n7_; have NB998_999 := n8_; have NB999_998 := n9_; clear n0_ n1_ n2_ n3_ n4_ n5_ n6_ n7_ n8_ n9_; clear hb hbox hg) | ((with_reducible refine gate_dst (N := 4) rfl ?_); refine box_event ?hg (N := 4) ?hd (cs := #[.slice none 0 0, .slice none 0 0]) (t := 27) ?hr ?_; (case hd => rfl); (case hg => rfl); (case hr => exact yp1); intro gb35 hg w11 hbox hb; have n0_ := Qz.mk (Kd.Qy (zr HO0_0) hb); have n1_ := Qz.mk (Kd.Qy (zr HO0_1) hb); have n2_ := Qz.mk (Qi (g := gb38) (o := .cells #[.slice Ao7 l0_0.length co7, .slice Ao8 l0_1.length co8] 27 (0, 0)) zk hb); have n3_ := Qz.mk (Qi (g := gb36) (o := .cells #[.int .i64 a1_0, .int .i64 a1_1, .int .i64 a1_2, .bool a1_3, .int .i64 a1_4, .bool a1_5, .int .i64 a1_6, .int .i64 a1_7] 48 (0, 0)) zk hb); have n4_ := Qz.mk (Kept.below (S := (fun k_ => P0_0_ k_ ∨ P0_1_ k_)) (by repeat (first | (with_reducible first | exact HK.out | apply Kept.alloc | apply Kept.drewN | apply Kept.drew | refine Kept.setCell ?_ (.inr GW38.out) _ | refine Kept.setCell ?_ (.inr GW36.out) _) | exact HK.out)) hb); have n5_ := Qz.mk (Qq zb hb); have n6_ := Qz.mk (hbox); have n7_ := Qz.mk ((by rw [hg]; exact (by first | exact HK.out.1 | exact (show Kept w _ (fun k_ => P0_0_ k_ ∨ P0_1_ k_) from by repeat (first | (with_reducible first | exact HK.out | apply Kept.alloc | apply Kept.drewN | apply Kept.drew | refine Kept.setCell ?_ (.inr GW38.out) _ | refine Kept.setCell ?_ (.inr GW36.out) _) | exact HK.out)).1) : w.heap.size ≤ gb35)); have n8_ := Qz.mk ((zh hg : w0.heap.size ≤ gb35)); have n9_ := Qz.mk ((yp5 : gb38 ≠ gb35)); have n10_ := Qz.mk ((yp6 : gb35 ≠ gb38)); have n11_ := Qz.mk ((yp8 : gb36 ≠ gb35)); have n12_ := Qz.mk ((yp9 : gb35 ≠ gb36)); clear HO0_0; clear HO0_1; clear BK38; clear BK36; clear HK; clear HB; have HO0_0 := n0_; have HO0_1 := n1_; have BK38 := n2_; have BK36 := n3_; have HK := n4_; have HB := n5_; have BK35 := n6_; have GW35 := n7_; have GE35 := n8_; have NB998_1000 := n9_; have NB1000_998 := n10_; have NB999_1000 := n11_; have NB1000_999 := n12_; clear n0_ n1_ n2_ n3_ n4_ n5_ n6_ n7_ n8_ n9_ n10_ n11_ n12_; clear hb hbox hg; have hnb12 := NB998_999.out; have hnc12 := NB999_998.out; have hnb13 := NB998_1000.out; have hnc13 := NB1000_998.out; obtain ⟨z14_0, z14_1, j14_0, j14_1⟩ := Lv.blks2 BK38.out) | ((with_reducible refine gate_callee (f := 103) rfl ?_); refine Qat (some 8) rfl rfl Try.func103 (by kernel_rfl) rfl #[.agg #[.slice Ao7 l0_0.length co7, .slice Ao8 l0_1.length co8]] rfl zm ?_; (with_reducible refine (Zsl3Copy.calls _ _ l0_0 _ _ l0_1 t37 t39 _ ?side1 ?side2 ?side3 ?side4 A3.out).mono ?_); (case side1 => exact zc (Kd.Qaj HO0_0.out).2.2); (case side2 => exact (Kd.Qaj HO0_0.out).2.1); (case side3 => exact zc (Kd.Qaj HO0_1.out).2.2); (case side4 => exact (Kd.Qaj HO0_1.out).2.1); rintro e w15 ⟨v47, v49, rfl, ho0, ho1, hb⟩; refine ⟨_, rfl, ?_⟩; have n0_ := Qz.mk (Kd.Qw (Kd.Qam (Kd.Qam (Kd.R_old (zr HO0_0) hb) (Kd.Qah ho0)) (Kd.Qah ho1)) (fun _ h_ => h_.1)); have n1_ := Qz.mk (Kd.Qw (Kd.Qam (Kd.Qam (Kd.R_old (zr HO0_1) hb) (Kd.Qah ho0)) (Kd.Qah ho1)) (fun _ h_ => h_.1)); have n2_ := Qz.mk (Kd.Qan (Kd.Qal (Kd.Qal (Kd.R_newM (M := fun k_ => ((P0_0_ k_ ∨ P0_1_ k_) ∨ w.heap.size ≤ k_)) ho0 yp0 (fun k_ h_ => .inr h_)) (Kd.R_lt (zr HO0_0))) (Kd.R_lt (zr HO0_1))) (Qp zb)); have n3_ := Qz.mk (Kd.Qan (Kd.Qal (Kd.Qal (Kd.R_newM (M := fun k_ => ((P0_0_ k_ ∨ P0_1_ k_) ∨ w.heap.size ≤ k_)) ho1 yp0 (fun k_ h_ => .inr h_)) (Kd.R_lt (zr HO0_0))) (Kd.R_lt (zr HO0_1))) (Qp zb)); have n4_ := Qz.mk (Qi (g := gb38) (o := .cells #[.slice Ao7 l0_0.length co7, .slice Ao8 l0_1.length co8] 27 (0, 0)) zk hb); have n5_ := Qz.mk (Qi (g := gb36) (o := .cells #[.int .i64 a1_0, .int .i64 a1_1, .int .i64 a1_2, .bool a1_3, .int .i64 a1_4, .bool a1_5, .int .i64 a1_6, .int .i64 a1_7] 48 (0, 0)) zk hb); have n6_ := Qz.mk (Qi (g := gb35) (o := .cells #[.slice none 0 0, .slice none 0 0] 27 (0, 0)) zk hb); have n7_ := Qz.mk (Kept.below (S := (fun k_ => P0_0_ k_ ∨ P0_1_ k_)) yp7 hb); have n8_ := Qz.mk (Qq zb hb); clear HO0_0; clear HO0_1; clear BK38; clear BK36; clear BK35; clear HK; clear HB; have HO0_0 := n0_; have HO0_1 := n1_; have HO43 := n2_; have HO42 := n3_; have BK38 := n4_; have BK36 := n5_; have BK35 := n6_; have HK := n7_; have HB := n8_; clear n0_ n1_ n2_ n3_ n4_ n5_ n6_ n7_ n8_; (try clear hb); (try clear hb2); (try clear hk); (try clear hi); (try clear ho0); (try clear ho1)) | ((with_reducible refine gate_dst (N := 6) rfl ?_); refine box_event ?hg (N := 6) ?hd (cs := #[.slice none 0 0, .slice none 0 0]) (t := 27) ?hr ?_; (case hd => rfl); (case hg => rfl); (case hr => exact yp1); intro gb34 hg w16 hbox hb; have n0_ := Qz.mk (Kd.Qy (zr HO0_0) hb); have n1_ := Qz.mk (Kd.Qy (zr HO0_1) hb); have n2_ := Qz.mk (Kd.Qy (zr HO43) hb); have n3_ := Qz.mk (Kd.Qy (zr HO42) hb); have n4_ := Qz.mk (Qi (g := gb38) (o := .cells #[.slice Ao7 l0_0.length co7, .slice Ao8 l0_1.length co8] 27 (0, 0)) zk hb); have n5_ := Qz.mk (Qi (g := gb36) (o := .cells #[.int .i64 a1_0, .int .i64 a1_1, .int .i64 a1_2, .bool a1_3, .int .i64 a1_4, .bool a1_5, .int .i64 a1_6, .int .i64 a1_7] 48 (0, 0)) zk hb); have n6_ := Qz.mk (Qi (g := gb35) (o := .cells #[.slice none 0 0, .slice none 0 0] 27 (0, 0)) zk hb); have n7_ := Qz.mk (Kept.below (S := (fun k_ => P0_0_ k_ ∨ P0_1_ k_)) yp7 hb); have n8_ := Qz.mk (Qq zb hb); have n9_ := Qz.mk (hbox); have n10_ := Qz.mk ((by rw [hg]; exact yp0 : w.heap.size ≤ gb34)); have n11_ := Qz.mk ((zh hg : w0.heap.size ≤ gb34)); have n12_ := Qz.mk ((yp5 : gb38 ≠ gb34)); have n13_ := Qz.mk ((yp6 : gb34 ≠ gb38)); have n14_ := Qz.mk ((yp8 : gb36 ≠ gb34)); have n15_ := Qz.mk ((yp9 : gb34 ≠ gb36)); have n16_ := Qz.mk ((by rw [hg]; exact Nat.ne_of_lt (Ql (g := gb35) (o := .cells #[.slice none 0 0, .slice none 0 0] 27 (0, 0)) zk) : gb35 ≠ gb34)); have n17_ := Qz.mk ((by rw [hg]; exact Nat.ne_of_gt (Ql (g := gb35) (o := .cells #[.slice none 0 0, .slice none 0 0] 27 (0, 0)) zk) : gb34 ≠ gb35)); clear HO0_0; clear HO0_1; clear HO43; clear HO42; clear BK38; clear BK36; clear BK35; clear HK; clear HB; have HO0_0 := n0_; have HO0_1 := n1_; have HO43 := n2_; have HO42 := n3_; have BK38 := n4_; have BK36 := n5_; have BK35 := n6_; have HK := n7_; have HB := n8_; have BK34 := n9_; have GW34 := n10_; have GE34 := n11_; have NB998_1007 := n12_; have NB1007_998 := n13_; have NB999_1007 := n14_; have NB1007_999 := n15_; have NB1000_1007 := n16_; have NB1007_1000 := n17_; clear n0_ n1_ n2_ n3_ n4_ n5_ n6_ n7_ n8_ n9_ n10_ n11_ n12_ n13_ n14_ n15_ n16_ n17_; clear hb hbox hg; obtain ⟨Ao17, co17, eo17⟩ := Kd.R_slice HO43.out; subst eo17; have hnb18 := NB1007_998.out; have hnc18 := NB998_1007.out; have hnb19 := NB1007_999.out; have hnc19 := NB999_1007.out; have hnb20 := NB1007_1000.out; have hnc20 := NB1000_1007.out; obtain ⟨z21_0, z21_1, j21_0, j21_1⟩ := Lv.blks2 BK34.out; obtain ⟨Ao22, co22, eo22⟩ := Kd.R_slice HO42.out; subst eo22))
  have n0_ : Qz (Kd.R (Kd.int .u8) 5 ((w16.setCell ⟨gb34, 0, none⟩ (.slice Ao17 t37.length co17)).setCell ⟨gb34, 1, none⟩ (.slice Ao22 t39.length co22)) w0.heap.size (fun k_ => ((P0_0_ k_ ∨ P0_1_ k_) ∨ w.heap.size ≤ k_) ∧ some k_ ≠ (.slice Ao8 l0_1.length co8 : Value).ownBlock ∧ some k_ ≠ (.slice Ao17 t37.length co17 : Value).ownBlock ∧ some k_ ≠ (.slice Ao22 t39.length co22 : Value).ownBlock) (.slice Ao7 l0_0.length co7) l0_0) := ⟨by refine zR ?_; exact Kd.Qw (Kd.Qx (p := ⟨gb34, 1, none⟩) (Kd.Qx (p := ⟨gb34, 0, none⟩) (Kd.Qai HO0_0.out BK34.out (by decide)) (fun _ hk => hk.2) (.slice Ao17 t37.length co17)) (fun _ hk => hk.2) (.slice Ao22 t39.length co22)) (fun _ hk => ⟨hk.1.1.1.1, ⟨hk.1.1.1.2, ⟨hk.1.1.2, hk.1.2⟩⟩⟩)⟩
  have n1_ : Qz (Kd.R (Kd.int .u8) 5 ((w16.setCell ⟨gb34, 0, none⟩ (.slice Ao17 t37.length co17)).setCell ⟨gb34, 1, none⟩ (.slice Ao22 t39.length co22)) w0.heap.size (fun k_ => ((P0_0_ k_ ∨ P0_1_ k_) ∨ w.heap.size ≤ k_) ∧ some k_ ≠ (.slice Ao7 l0_0.length co7 : Value).ownBlock ∧ some k_ ≠ (.slice Ao17 t37.length co17 : Value).ownBlock ∧ some k_ ≠ (.slice Ao22 t39.length co22 : Value).ownBlock) (.slice Ao8 l0_1.length co8) l0_1) := ⟨by refine zR ?_; exact Kd.Qw (Kd.Qx (p := ⟨gb34, 1, none⟩) (Kd.Qx (p := ⟨gb34, 0, none⟩) (Kd.Qai HO0_1.out BK34.out (by decide)) (fun _ hk => hk.2) (.slice Ao17 t37.length co17)) (fun _ hk => hk.2) (.slice Ao22 t39.length co22)) (fun _ hk => ⟨hk.1.1.1.1, ⟨hk.1.1.1.2, ⟨hk.1.1.2, hk.1.2⟩⟩⟩)⟩
  have n2_ : Qz (Kd.R (Kd.int .u8) 5 ((w16.setCell ⟨gb34, 0, none⟩ (.slice Ao17 t37.length co17)).setCell ⟨gb34, 1, none⟩ (.slice Ao22 t39.length co22)) w0.heap.size (fun k_ => ((P0_0_ k_ ∨ P0_1_ k_) ∨ w.heap.size ≤ k_) ∧ some k_ ≠ (.slice Ao7 l0_0.length co7 : Value).ownBlock ∧ some k_ ≠ (.slice Ao8 l0_1.length co8 : Value).ownBlock ∧ some k_ ≠ (.slice Ao22 t39.length co22 : Value).ownBlock) (.slice Ao17 t37.length co17) t37) := ⟨by refine zR ?_; exact Kd.Qw (Kd.Qx (p := ⟨gb34, 1, none⟩) (Kd.Qx (p := ⟨gb34, 0, none⟩) (Kd.Qai HO43.out BK34.out (by decide)) (fun _ hk => hk.2) (.slice Ao17 t37.length co17)) (fun _ hk => hk.2) (.slice Ao22 t39.length co22)) (fun _ hk => ⟨hk.1.1.1.1, ⟨hk.1.1.2, ⟨hk.1.2, hk.1.1.1.2⟩⟩⟩)⟩
  have n3_ : Qz (Kd.R (Kd.int .u8) 5 ((w16.setCell ⟨gb34, 0, none⟩ (.slice Ao17 t37.length co17)).setCell ⟨gb34, 1, none⟩ (.slice Ao22 t39.length co22)) w0.heap.size (fun k_ => ((P0_0_ k_ ∨ P0_1_ k_) ∨ w.heap.size ≤ k_) ∧ some k_ ≠ (.slice Ao7 l0_0.length co7 : Value).ownBlock ∧ some k_ ≠ (.slice Ao8 l0_1.length co8 : Value).ownBlock ∧ some k_ ≠ (.slice Ao17 t37.length co17 : Value).ownBlock) (.slice Ao22 t39.length co22) t39) := ⟨by refine zR ?_; exact Kd.Qw (Kd.Qx (p := ⟨gb34, 1, none⟩) (Kd.Qx (p := ⟨gb34, 0, none⟩) (Kd.Qai HO42.out BK34.out (by decide)) (fun _ hk => hk.2) (.slice Ao17 t37.length co17)) (fun _ hk => hk.2) (.slice Ao22 t39.length co22)) (fun _ hk => ⟨hk.1.1.1.1, ⟨hk.1.1.2, ⟨hk.1.2, hk.1.1.1.2⟩⟩⟩)⟩
  have n4_ : Qz (((w16.setCell ⟨gb34, 0, none⟩ (.slice Ao17 t37.length co17)).setCell ⟨gb34, 1, none⟩ (.slice Ao22 t39.length co22)).heap[gb38]? = some (.cells #[.slice Ao7 l0_0.length co7, .slice Ao8 l0_1.length co8] 27 (0, 0))) := ⟨by refine zQ ?_; refine blk_far ?_ NB998_1007.out _; refine zQ ?_; refine blk_far ?_ NB998_1007.out _; refine zQ ?_; exact BK38.out⟩
  have n5_ : Qz (((w16.setCell ⟨gb34, 0, none⟩ (.slice Ao17 t37.length co17)).setCell ⟨gb34, 1, none⟩ (.slice Ao22 t39.length co22)).heap[gb36]? = some (.cells #[.int .i64 a1_0, .int .i64 a1_1, .int .i64 a1_2, .bool a1_3, .int .i64 a1_4, .bool a1_5, .int .i64 a1_6, .int .i64 a1_7] 48 (0, 0))) := ⟨by refine zQ ?_; refine blk_far ?_ NB999_1007.out _; refine zQ ?_; refine blk_far ?_ NB999_1007.out _; refine zQ ?_; exact BK36.out⟩
  have n6_ : Qz (((w16.setCell ⟨gb34, 0, none⟩ (.slice Ao17 t37.length co17)).setCell ⟨gb34, 1, none⟩ (.slice Ao22 t39.length co22)).heap[gb35]? = some (.cells #[.slice none 0 0, .slice none 0 0] 27 (0, 0))) := ⟨by refine zQ ?_; refine blk_far ?_ NB1000_1007.out _; refine zQ ?_; refine blk_far ?_ NB1000_1007.out _; refine zQ ?_; exact BK35.out⟩
  have n7_ : Qz (((w16.setCell ⟨gb34, 0, none⟩ (.slice Ao17 t37.length co17)).setCell ⟨gb34, 1, none⟩ (.slice Ao22 t39.length co22)).heap[gb34]? = some (.cells #[.slice Ao17 t37.length co17, .slice Ao22 t39.length co22] 27 (0, 0))) := ⟨by refine zQ ?_; refine Qk (cs := #[.slice Ao17 t37.length co17, .slice none 0 0]) ?_ 1 _ rfl; refine zQ ?_; refine Qk (cs := #[.slice none 0 0, .slice none 0 0]) ?_ 0 _ rfl; refine zQ ?_; exact BK34.out⟩
  have n8_ : Qz (Kept w ((w16.setCell ⟨gb34, 0, none⟩ (.slice Ao17 t37.length co17)).setCell ⟨gb34, 1, none⟩ (.slice Ao22 t39.length co22)) (fun k_ => P0_0_ k_ ∨ P0_1_ k_)) := ⟨by repeat (first | (with_reducible first | exact HK.out | apply Kept.alloc | apply Kept.drewN | apply Kept.drew | refine Kept.setCell ?_ (.inr GW38.out) _ | refine Kept.setCell ?_ (.inr GW36.out) _ | refine Kept.setCell ?_ (.inr GW35.out) _ | refine Kept.setCell ?_ (.inr GW34.out) _) | exact HK.out)⟩
  have n9_ : Qz (Below w0.heap.size w0 ((w16.setCell ⟨gb34, 0, none⟩ (.slice Ao17 t37.length co17)).setCell ⟨gb34, 1, none⟩ (.slice Ao22 t39.length co22))) := ⟨zb⟩
  (try clear HO0_0)
  (try clear HO0_1)
  (try clear HO43)
  (try clear HO42)
  (try clear BK38)
  (try clear BK36)
  (try clear BK35)
  (try clear BK34)
  (try clear HK)
  (try clear HB)
  generalize ((w16.setCell ⟨gb34, 0, none⟩ (.slice Ao17 t37.length co17)).setCell ⟨gb34, 1, none⟩ (.slice Ao22 t39.length co22)) = w23 at n0_ n1_ n2_ n3_ n4_ n5_ n6_ n7_ n8_ n9_ ⊢
  have HO0_0 := n0_
  have HO0_1 := n1_
  have HO43 := n2_
  have HO42 := n3_
  have BK38 := n4_
  have BK36 := n5_
  have BK35 := n6_
  have BK34 := n7_
  have HK := n8_
  have HB := n9_
  clear n0_ n1_ n2_ n3_ n4_ n5_ n6_ n7_ n8_ n9_
  have n0_ := Qz.mk (Kd.Qo HO0_0.out)
  have n1_ := Qz.mk (Kd.Qo HO0_1.out)
  have n2_ := Qz.mk (Kd.Qo HO43.out)
  have n3_ := Qz.mk (Kd.Qo HO42.out)
  have n4_ := Qz.mk (Qg BK38.out)
  have n5_ := Qz.mk (Qg BK36.out)
  have n6_ := Qz.mk (Qg BK35.out)
  have n7_ := Qz.mk (Qg BK34.out)
  have n8_ := Qz.mk (Kept.drew HK.out)
  have n9_ := Qz.mk (Qb HB.out)
  clear HO0_0
  clear HO0_1
  clear HO43
  clear HO42
  clear BK38
  clear BK36
  clear BK35
  clear BK34
  clear HK
  clear HB
  have HO0_0 := n0_
  have HO0_1 := n1_
  have HO43 := n2_
  have HO42 := n3_
  have BK38 := n4_
  have BK36 := n5_
  have BK35 := n6_
  have BK34 := n7_
  have HK := n8_
  have HB := n9_
  clear n0_ n1_ n2_ n3_ n4_ n5_ n6_ n7_ n8_ n9_
  refine start_ (n := 7) (S := fun w' => w'.cell? ⟨gb34, 0, none⟩ = some (.slice Ao17 t37.length co17) ∧ w'.cell? ⟨gb34, 1, none⟩ = some (.slice Ao22 t39.length co22) ∧ w'.cell? ⟨gb36, 0, none⟩ = some (.int .i64 a1_0) ∧ w'.cell? ⟨gb36, 1, none⟩ = some (.int .i64 a1_1) ∧ w'.cell? ⟨gb36, 2, none⟩ = some (.int .i64 a1_2) ∧ w'.cell? ⟨gb36, 3, none⟩ = some (.bool a1_3) ∧ w'.cell? ⟨gb36, 4, none⟩ = some (.int .i64 a1_4) ∧ w'.cell? ⟨gb36, 5, none⟩ = some (.bool a1_5) ∧ w'.cell? ⟨gb36, 6, none⟩ = some (.int .i64 a1_6) ∧ w'.cell? ⟨gb36, 7, none⟩ = some (.int .i64 a1_7)) (ds := [6]) #[Z, Z, Z, Z, Z, Z, Z] (by kernel_rfl) rfl rfl ⟨(Qh BK34.out 0).trans rfl, (Qh BK34.out 1).trans rfl, (Qh BK36.out 0).trans rfl, (Qh BK36.out 1).trans rfl, (Qh BK36.out 2).trans rfl, (Qh BK36.out 3).trans rfl, (Qh BK36.out 4).trans rfl, (Qh BK36.out 5).trans rfl, (Qh BK36.out 6).trans rfl, (Qh BK36.out 7).trans rfl⟩ (fun hHeld => ?_)
  generalize w23.drew = w24 at HO0_0 HO0_1 HO43 HO42 BK38 BK36 BK35 BK34 HK HB hHeld ⊢
  refine zp 0 9 ?_; refine zt 1 10 ?_; refine zt 2 11 ?_
  refine one_ (i := 3) (N := some 12) #[Y, Y, Y, Y, Z, Z, Z] rfl rfl (by kernel_rfl) (by decide) (fun K hK => ?_)
  refine goes_ Try.func80 (by kernel_rfl) rfl #[.agg #[.int .i64 a1_0, .int .i64 a1_1, .int .i64 a1_2, .bool a1_3, .int .i64 a1_4, .bool a1_5, .int .i64 a1_6, .int .i64 a1_7]] (by rfl) rfl rfl zm ?_
  with_reducible refine (Zsl3Pack.calls k a1_0 a1_1 a1_2 a1_3 a1_4 a1_5 a1_6 a1_7 t44 _ A4.out).mono ?_
  rintro e w25 ⟨v50, rfl, ho0, hb⟩
  refine ⟨_, rfl, ?_⟩
  have n0_ := Qz.mk (Kd.R_elder' (zr HO0_0) (Kd.Qah ho0) hb)
  have n1_ := Qz.mk (Kd.R_elder' (zr HO0_1) (Kd.Qah ho0) hb)
  have n2_ := Qz.mk (Kd.R_elder' (zr HO43) (Kd.Qah ho0) hb)
  have n3_ := Qz.mk (Kd.R_elder' (zr HO42) (Kd.Qah ho0) hb)
  have n4_ := Qz.mk (Kd.Qan (Kd.Qal (Kd.Qal (Kd.Qal (Kd.Qal (Kd.R_newM (M := fun k_ => ((P0_0_ k_ ∨ P0_1_ k_) ∨ w.heap.size ≤ k_)) ho0 yp2 (fun k_ h_ => .inr h_)) (Kd.R_lt (zr HO0_0))) (Kd.R_lt (zr HO0_1))) (Kd.R_lt (zr HO43))) (Kd.R_lt (zr HO42))) (Qp zb))
  have n5_ := Qz.mk (Qi (g := gb38) (o := .cells #[.slice Ao7 l0_0.length co7, .slice Ao8 l0_1.length co8] 27 (0, 0)) zk hb)
  have n6_ := Qz.mk (Qi (g := gb36) (o := .cells #[.int .i64 a1_0, .int .i64 a1_1, .int .i64 a1_2, .bool a1_3, .int .i64 a1_4, .bool a1_5, .int .i64 a1_6, .int .i64 a1_7] 48 (0, 0)) zk hb)
  have n7_ := Qz.mk (Qi (g := gb35) (o := .cells #[.slice none 0 0, .slice none 0 0] 27 (0, 0)) zk hb)
  have n8_ := Qz.mk (Qi (g := gb34) (o := .cells #[.slice Ao17 t37.length co17, .slice Ao22 t39.length co22] 27 (0, 0)) zk hb)
  have n9_ := Qz.mk (Kept.below (S := (fun k_ => P0_0_ k_ ∨ P0_1_ k_)) yp4 hb)
  have n10_ := Qz.mk (Qq zb hb)
  clear HO0_0
  clear HO0_1
  clear HO43
  clear HO42
  clear BK38
  clear BK36
  clear BK35
  clear BK34
  clear HK
  clear HB
  have HO0_0 := n0_
  have HO0_1 := n1_
  have HO43 := n2_
  have HO42 := n3_
  have HO45 := n4_
  have BK38 := n5_
  have BK36 := n6_
  have BK35 := n7_
  have BK34 := n8_
  have HK := n9_
  have HB := n10_
  clear n0_ n1_ n2_ n3_ n4_ n5_ n6_ n7_ n8_ n9_ n10_
  (try clear hb)
  (try clear hb2)
  (try clear hk)
  (try clear hi)
  (try clear ho0)
  obtain ⟨Ao27, co27, eo27⟩ := Kd.R_slice HO45.out
  (first | subst eo27 | (injection eo27 with f1_ f2_ f3_; have f4_ := f1_.symm; have f5_ := f3_.symm; clear f1_ f2_ f3_; subst f4_; subst f5_))
  refine hK.out _ _ ⟨(Qh BK34.out 0).trans rfl, (Qh BK34.out 1).trans rfl, (Qh BK36.out 0).trans rfl, (Qh BK36.out 1).trans rfl, (Qh BK36.out 2).trans rfl, (Qh BK36.out 3).trans rfl, (Qh BK36.out 4).trans rfl, (Qh BK36.out 5).trans rfl, (Qh BK36.out 6).trans rfl, (Qh BK36.out 7).trans rfl⟩ (fun hHeld => ?_)
  clear hK K
  refine norm_ (a' := ?_) ?_ ?_
  rotate_left
  ·show Act.put _ (some 12) _ = _
   simp only [Act.put, List.setIfInBounds_toArray, List.set_cons_zero, List.set_cons_succ, Qar, Qas]
   rfl
  refine one_ (i := 4) (N := some 13) #[Y, Y, Y, Y, Y, Z, Z] rfl rfl (by kernel_rfl) (by decide) (fun K hK => ?_)
  refine Kd.R_append_rows_step (Kd.int .u8) (w0 := w0) w0.heap.size (by rfl) (.tmp 10) (.tmp 12) 22 5 (.int .u8 0) 1 rfl Try.underlying22 info5 rfl (by decide) (by omega) (.slice Ao22 t39.length co22) t39 t44 _ _ _ (fun k_ => ((P0_0_ k_ ∨ P0_1_ k_) ∨ w.heap.size ≤ k_) ∧ some k_ ≠ (.slice Ao7 l0_0.length co7 : Value).ownBlock ∧ some k_ ≠ (.slice Ao8 l0_1.length co8 : Value).ownBlock ∧ some k_ ≠ (.slice Ao17 t37.length co17 : Value).ownBlock ∧ some k_ ≠ (.slice Ao27 t44.length co27 : Value).ownBlock) (fun _ => False) rfl rfl ?aO ?aR (fun _ _ h => h) (fun _ h => h.elim) ?aF ?aB ?aS ?aL ?_
  (case aR => repeat (first | exact (Kd.Qaj HO45.out).2.2 | (with_reducible first | refine Kd.Qaa ?_ _ | refine Kd.Qz ?_ _ | refine Kd.Qab ?_)))
  (case aB => exact zb)
  (case aF => exact (fun k_ hk => ⟨(.inr (Nat.le_trans yp2 hk)), Kd.fresh' (Kd.R_lt (zr HO0_0)) k_ hk, Kd.fresh' (Kd.R_lt (zr HO0_1)) k_ hk, Kd.fresh' (Kd.R_lt (zr HO43)) k_ hk, Kd.fresh' (Kd.R_lt (zr HO45)) k_ hk⟩))
  (case aO => exact (by refine zR ?_; exact Kd.Qw HO42.out (fun _ hk => ⟨hk.1.1, ⟨hk.1.2.1, ⟨hk.1.2.2.1, ⟨hk.1.2.2.2, hk.2⟩⟩⟩⟩)))
  (case aS => exact (Qp zb))
  (case aL => have := LMc5.out; omega)
  intro v51 w26 ho hb hg hat
  rw [← Ny41.out] at ho
  have n0_ := Qz.mk (Kd.R_after (ok := (fun k_ => ((P0_0_ k_ ∨ P0_1_ k_) ∨ w.heap.size ≤ k_) ∧ some k_ ≠ (.slice Ao8 l0_1.length co8 : Value).ownBlock ∧ some k_ ≠ (.slice Ao17 t37.length co17 : Value).ownBlock ∧ some k_ ≠ (.slice Ao27 t44.length co27 : Value).ownBlock)) (by refine zR ?_; exact Kd.Qw HO0_0.out (fun _ hk => ⟨⟨hk.1.1, ⟨hk.1.2.1, ⟨hk.1.2.2.1, hk.2⟩⟩⟩, hk.1.2.2.2⟩)) hg hat)
  have n1_ := Qz.mk (Kd.R_after (ok := (fun k_ => ((P0_0_ k_ ∨ P0_1_ k_) ∨ w.heap.size ≤ k_) ∧ some k_ ≠ (.slice Ao7 l0_0.length co7 : Value).ownBlock ∧ some k_ ≠ (.slice Ao17 t37.length co17 : Value).ownBlock ∧ some k_ ≠ (.slice Ao27 t44.length co27 : Value).ownBlock)) (by refine zR ?_; exact Kd.Qw HO0_1.out (fun _ hk => ⟨⟨hk.1.1, ⟨hk.1.2.1, ⟨hk.1.2.2.1, hk.2⟩⟩⟩, hk.1.2.2.2⟩)) hg hat)
  have n2_ := Qz.mk (blk_grown (g := gb38) (o := .cells #[.slice Ao7 l0_0.length co7, .slice Ao8 l0_1.length co8] 27 (0, 0)) zk hg (Kd.R_ne HO42.out BK38.out (by decide)))
  have n3_ := Qz.mk (blk_grown (g := gb36) (o := .cells #[.int .i64 a1_0, .int .i64 a1_1, .int .i64 a1_2, .bool a1_3, .int .i64 a1_4, .bool a1_5, .int .i64 a1_6, .int .i64 a1_7] 48 (0, 0)) zk hg (Kd.R_ne HO42.out BK36.out (by decide)))
  have n4_ := Qz.mk (blk_grown (g := gb35) (o := .cells #[.slice none 0 0, .slice none 0 0] 27 (0, 0)) zk hg (Kd.R_ne HO42.out BK35.out (by decide)))
  have n5_ := Qz.mk (Kd.R_after (ok := (fun k_ => ((P0_0_ k_ ∨ P0_1_ k_) ∨ w.heap.size ≤ k_) ∧ some k_ ≠ (.slice Ao7 l0_0.length co7 : Value).ownBlock ∧ some k_ ≠ (.slice Ao8 l0_1.length co8 : Value).ownBlock ∧ some k_ ≠ (.slice Ao27 t44.length co27 : Value).ownBlock)) (by refine zR ?_; exact Kd.Qw HO43.out (fun _ hk => ⟨⟨hk.1.1, ⟨hk.1.2.1, ⟨hk.1.2.2.1, hk.2⟩⟩⟩, hk.1.2.2.2⟩)) hg hat)
  have n6_ := Qz.mk (blk_grown (g := gb34) (o := .cells #[.slice Ao17 t37.length co17, .slice Ao22 t39.length co22] 27 (0, 0)) zk hg (Kd.R_ne HO42.out BK34.out (by decide)))
  have n7_ := Qz.mk (Kd.R_after (ok := (fun k_ => ((P0_0_ k_ ∨ P0_1_ k_) ∨ w.heap.size ≤ k_) ∧ some k_ ≠ (.slice Ao7 l0_0.length co7 : Value).ownBlock ∧ some k_ ≠ (.slice Ao8 l0_1.length co8 : Value).ownBlock ∧ some k_ ≠ (.slice Ao17 t37.length co17 : Value).ownBlock)) (by refine zR ?_; exact Kd.Qw HO45.out (fun _ hk => ⟨⟨hk.1.1.1.1.1, ⟨hk.1.1.1.2, ⟨hk.1.1.2, hk.1.2⟩⟩⟩, hk.2⟩)) hg hat)
  have n8_ := Qz.mk (hb)
  have n9_ := Qz.mk (Kept.of_grown (S := (fun k_ => P0_0_ k_ ∨ P0_1_ k_)) hg yp4 (fun k_ e_ => (HO42.out.1 k_ e_).1.1))
  have n10_ := Qz.mk (ho)
  clear HO0_0
  clear HO0_1
  clear BK38
  clear BK36
  clear BK35
  clear HO43
  clear BK34
  clear HO45
  clear HB
  clear HK
  clear HO42
  have HO0_0 := n0_
  have HO0_1 := n1_
  have BK38 := n2_
  have BK36 := n3_
  have BK35 := n4_
  have HO43 := n5_
  have BK34 := n6_
  have HO45 := n7_
  have HB := n8_
  have HK := n9_
  have HO46 := n10_
  clear n0_ n1_ n2_ n3_ n4_ n5_ n6_ n7_ n8_ n9_ n10_
  clear ho hb hg hat
  obtain ⟨Ao28, co28, eo28⟩ := Kd.R_slice HO46.out
  (first | subst eo28 | (injection eo28 with f1_ f2_ f3_; have f4_ := f1_.symm; have f5_ := f3_.symm; clear f1_ f2_ f3_; subst f4_; subst f5_))
  refine hK.out _ _ ⟨(Qh BK34.out 0).trans rfl, (Qh BK34.out 1).trans rfl, (Qh BK36.out 0).trans rfl, (Qh BK36.out 1).trans rfl, (Qh BK36.out 2).trans rfl, (Qh BK36.out 3).trans rfl, (Qh BK36.out 4).trans rfl, (Qh BK36.out 5).trans rfl, (Qh BK36.out 6).trans rfl, (Qh BK36.out 7).trans rfl⟩ (fun hHeld => ?_)
  clear hK K
  refine norm_ (a' := ?_) ?_ ?_
  rotate_left
  ·show Act.put _ (some 13) _ = _
   simp only [Act.put, List.setIfInBounds_toArray, List.set_cons_zero, List.set_cons_succ, Qar, Qas]
   rfl
  refine zp 5 14 ?_
  refine last_ (i := 6) (N := none) #[Y, Y, Y, Y, Y, Y, Y] rfl rfl (by kernel_rfl) (by decide) (fun K hK => ?_)
  have hs29 : w26.cell? ⟨gb34, 1, none⟩ = some (.slice Ao22 t39.length co22) := (Qh BK34.out 1).trans rfl
  have hfs29 := Qj BK34.out 1
  have hns29_0 := NB998_1007.out
  have hns29_1 := NB999_1007.out
  have hns29_2 := NB1000_1007.out
  have hms29_0 := NB1007_998.out
  have hms29_1 := NB1007_999.out
  have hms29_2 := NB1007_1000.out
  refine skip_ (w1 := ?_) (by rfl) rfl ?_ ?_
  rotate_left
  ·go_simp
   rfl
  refine hK.out _ _ ?_
  clear hK K
  refine done_ (by kernel_rfl) ?_
  have H := HX_.out
  clear HX_
  by_cases c6 : (wrap64 ((t37.length : Int) + (y41.length : Int))) > 4000
  ·rw [if_pos c6] at H
   have c6b0 : decide (4000 < (wrap64 ((t37.length : Int) + (y41.length : Int)))) = true := decide_eq_true c6
   clear c6
   simp only [Option.some.injEq, Prod.mk.injEq] at H
   obtain ⟨rfl, rfl, rfl⟩ := H
   obtain ⟨z30_0, z30_1, j30_0, j30_1⟩ := Lv.blks2 BK34.out
   obtain ⟨z31_0, z31_1, j31_0, j31_1⟩ := Lv.blks2 BK38.out
   have hnb32 := NB1000_999.out
   have hnc32 := NB999_1000.out
   obtain ⟨z33_0, z33_1, j33_0, j33_1⟩ := Lv.blks2 BK35.out
   try go_wp2
   refine bodyPost_ret (results_ct rfl _ _ gb35 27 #[.slice Ao7 l0_0.length co7, .slice Ao8 l0_1.length co8] (0, 0) _ rfl (by refine zQ ?_; refine Qk (cs := #[.slice Ao7 l0_0.length co7, .slice none 0 0]) ?_ 1 _ rfl; refine zQ ?_; refine Qk (cs := #[.slice none 0 0, .slice none 0 0]) ?_ 0 _ rfl; refine zQ ?_; refine blk_far ?_ NB1000_1007.out _; refine zQ ?_; exact BK35.out) Try.underlying27 rfl (by kernel_rfl)) rfl ?_
   exact ⟨_, _, ze, by refine zR ?_; exact Kd.Qw (Kd.Qx (p := ⟨gb35, 1, none⟩) (Kd.Qx (p := ⟨gb35, 0, none⟩) (Kd.Qx (p := ⟨gb34, 1, none⟩) (Kd.Qai (Kd.Qai HO0_0.out BK34.out (by decide)) BK35.out (by decide)) (fun _ hk => hk.1.2) (.slice Ao28 y41.length co28)) (fun _ hk => hk.2) (.slice Ao7 l0_0.length co7)) (fun _ hk => hk.2) (.slice Ao8 l0_1.length co8)) (fun _ hk => ⟨hk.1.1.1.1, hk.1.1.1.2.1⟩), by refine zR ?_; exact Kd.Qw (Kd.Qx (p := ⟨gb35, 1, none⟩) (Kd.Qx (p := ⟨gb35, 0, none⟩) (Kd.Qx (p := ⟨gb34, 1, none⟩) (Kd.Qai (Kd.Qai HO0_1.out BK34.out (by decide)) BK35.out (by decide)) (fun _ hk => hk.1.2) (.slice Ao28 y41.length co28)) (fun _ hk => hk.2) (.slice Ao7 l0_0.length co7)) (fun _ hk => hk.2) (.slice Ao8 l0_1.length co8)) (fun _ hk => ⟨hk.1.1.1.1, hk.1.1.1.2.1⟩), zb, by repeat (first | (with_reducible first | exact HK.out | apply Kept.alloc | apply Kept.drewN | apply Kept.drew | refine Kept.setCell ?_ (.inr GW38.out) _ | refine Kept.setCell ?_ (.inr GW36.out) _ | refine Kept.setCell ?_ (.inr GW35.out) _ | refine Kept.setCell ?_ (.inr GW34.out) _) | exact HK.out)⟩
  rw [if_neg c6] at H
  have c6b0 : decide (4000 < (wrap64 ((t37.length : Int) + (y41.length : Int)))) = false := decide_eq_false c6
  clear c6
  simp only [Option.some.injEq, Prod.mk.injEq] at H
  obtain ⟨rfl, rfl, rfl⟩ := H
  obtain ⟨z57_0, z57_1, j57_0, j57_1⟩ := Lv.blks2 BK34.out
  have hnb58 := NB1000_999.out
  have hnc58 := NB999_1000.out
  obtain ⟨z59_0, z59_1, j59_0, j59_1⟩ := Lv.blks2 BK35.out
  try go_wp2
  refine bodyPost_ret (results_ct rfl _ _ gb35 27 #[.slice Ao17 t37.length co17, .slice Ao28 y41.length co28] (0, 0) _ rfl (by refine zQ ?_; refine Qk (cs := #[.slice Ao17 t37.length co17, .slice none 0 0]) ?_ 1 _ rfl; refine zQ ?_; refine Qk (cs := #[.slice none 0 0, .slice none 0 0]) ?_ 0 _ rfl; refine zQ ?_; refine blk_far ?_ NB1000_1007.out _; refine zQ ?_; exact BK35.out) Try.underlying27 rfl (by kernel_rfl)) rfl ?_
  exact ⟨_, _, ze, by refine zR ?_; exact Kd.Qw (Kd.Qx (p := ⟨gb35, 1, none⟩) (Kd.Qx (p := ⟨gb35, 0, none⟩) (Kd.Qx (p := ⟨gb34, 1, none⟩) (Kd.Qai (Kd.Qai HO43.out BK34.out (by decide)) BK35.out (by decide)) (fun _ hk => hk.1.2) (.slice Ao28 y41.length co28)) (fun _ hk => hk.2) (.slice Ao17 t37.length co17)) (fun _ hk => hk.2) (.slice Ao28 y41.length co28)) (fun _ hk => ⟨hk.1.1.1.1, hk.1.1.2⟩), by refine zR ?_; exact Kd.Qw (Kd.Qx (p := ⟨gb35, 1, none⟩) (Kd.Qx (p := ⟨gb35, 0, none⟩) (Kd.Qx (p := ⟨gb34, 1, none⟩) (Kd.Qai (Kd.Qai HO46.out BK34.out (by decide)) BK35.out (by decide)) (fun _ hk => hk.1.2) (.slice Ao28 y41.length co28)) (fun _ hk => hk.2) (.slice Ao17 t37.length co17)) (fun _ hk => hk.2) (.slice Ao28 y41.length co28)) (fun _ hk => ⟨hk.1.1.1, hk.1.1.2.2.2.1⟩), zb, by repeat (first | (with_reducible first | exact HK.out | apply Kept.alloc | apply Kept.drewN | apply Kept.drew | refine Kept.setCell ?_ (.inr GW38.out) _ | refine Kept.setCell ?_ (.inr GW36.out) _ | refine Kept.setCell ?_ (.inr GW35.out) _ | refine Kept.setCell ?_ (.inr GW34.out) _) | exact HK.out)⟩
 rw [if_neg c5] at H
 exact absurd H (by simp)
end Go.Proofs.Ythagppmaofcllaa.P
