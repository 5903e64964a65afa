import Derived.Test.YtonbnmaelepcbaaZz
import Derived.Test.YtonbnmaelepcbaaP0
import Derived.Test.YtonbnmaelepcbaaPCacdefgh2
import Derived.Test.YtonbnmaelepcbaaPDacdefgh0
import Derived.Test.YtonbnmaelepcbaaPDm1
import Derived.Test.YtonbnmaelepcbaaWRepsOne
import Derived.Test.YtonbnmaelepcbaaWTab
import Derived.Test.YtonbnmaelepcbaaLv
import Derived.Test.YtonbnmaelepcbaaLv
namespace Go.Proofs.Ytonbnmaelepcbaa.P
open Go.RowKit Go.Proofs.YtonbnmaelepcbaaW.PrintWords Go.Proofs.YtonbnmaelepcbaaW.PrintLast Go.Proofs.YtonbnmaelepcbaaW.PrintMore
attribute [local go_sem] max2_int min2_int max_two min_two max_three min_three max_four min_four   -- for this text's walks alone
set_option linter.unusedVariables false
set_option linter.unusedSimpArgs false
def spec_OpenTxns.T9 : Bool × List (List Nat × List Nat) := (true, [([], []), ([0], [0]), ([], []), ([2], [2]), ([], []), ([3, 4], [3, 4]), ([5], [5]), ([6], [6]), ([7], [7]), ([1, 8], [1, 8]), ([0, 1, 2, 3, 4, 5, 6, 7, 8, 9], []), ([10, 9, 9, 0, 1, 2, 3, 4, 5, 6, 7, 8, 9], [9, 10])])
def spec_OpenTxns.B9 : List Nat := [0, 1, 0, 4, 0, 28, 60, 124, 252, 511, 1023, 2047]
theorem spec_OpenTxns.tab9 : rtab .any (opsOf Try.f36 9) = spec_OpenTxns.T9 := by kernel_rfl
theorem spec_OpenTxns.bits9 : waitsOk spec_OpenTxns.T9.2 spec_OpenTxns.B9 = true := by kernel_rfl
set_option maxHeartbeats 8000000 in
set_option maxRecDepth 100000 in
theorem spec_OpenTxns.calls (k : Nat) (a0_0 : Int) (a0_1 : Int) (A0_2 : Option Addr) (c0_2 : Nat) (l0_2 : List (S83)) (A0_3 : Option Addr) (c0_3 : Nat) (l0_3 : List (S87)) (r1 : Int) (r2 : List Int) (w : World) (hr0_2 : Kd.C k83 w A0_2 l0_2.length l0_2) (hc0_2 : l0_2.length ≤ c0_2) (hr0_3 : Kd.C k87 w A0_3 l0_3.length l0_3) (hc0_3 : l0_3.length ≤ c0_3) (h : spec_OpenTxns.f k a0_0 a0_1 l0_2 l0_3 = some (r1, r2)) :
 Calls Try.prog 36 #[.agg #[.int .i64 a0_0, .int .i64 a0_1, .slice A0_2 l0_2.length c0_2, .slice A0_3 l0_3.length c0_3]] w fun e w' => ∃ v1_ : Value, e = .returned (.agg #[.int .i64 r1, v1_]) ∧ Kd.R (Kd.int .i64) 2 w' w.heap.size (fun _ => True) v1_ r2 ∧ Below w.heap.size w w' := by
 have hu31 := Try.underlying31
 have hu63 := Try.underlying63
 have HR0_2 := Aside0.mk hr0_2
 have HC0_2 := Aside0.mk hc0_2
 clear hr0_2 hc0_2
 have HR0_3 := Aside0.mk hr0_3
 have HC0_3 := Aside0.mk hc0_3
 clear hr0_3 hc0_3
 have HB := Aside0.mk (Below.refl w.heap.size w)
 have H : ((spec_l6Fault.f k a0_0 a0_1 l0_2 l0_3).bind fun t43 => (if t43 = 0 then (spec_OpenTxns.l0 k 0 a0_0 a0_1 l0_2 l0_3 0 ([] : List Int)) else (some (t43, ([] : List Int))))) = some (r1, r2) := h
 clear h
 replace H := Option.bind_eq_some_iff.mp H
 obtain ⟨t43, A20, H⟩ := H
 replace H : (if t43 = 0 then (spec_OpenTxns.l0 k 0 a0_0 a0_1 l0_2 l0_3 0 ([] : List Int)) else (some (t43, ([] : List Int)))) = some (r1, r2) := H
 have A2 := Aside0.mk A20
 clear A20
 by_cases c3 : t43 = 0
 ·rw [if_pos c3] at H
  have c3b0 : (t43 == 0) = true := beq_iff_eq.mpr c3
  have c3b1 : (t43 != 0) = false := bne_eq_false_iff_eq.mpr c3
  clear c3
  have H' := Aside0.mk H
  clear H
  go_enter Try.func36, Try.ntmps36
  go_wp2_with (first | ((with_reducible refine gate_dst (N := 1) rfl ?_); refine zE 1 31 #[.int .i64 a0_0, .int .i64 a0_1, .slice A0_2 l0_2.length c0_2, .slice A0_3 l0_3.length c0_3] ?_; intro gb37 hg w4 hbox hb; have BK37 := Aside0.mk hbox; have GW37 := Aside0.mk (zh hg : w.heap.size ≤ gb37); have GE37 := GW37; replace HB := Aside0.mk (below_step zb hb); clear hb hbox hg) | ((with_reducible refine gate_dst (N := 2) rfl ?_); refine zE 2 63 #[.int .i64 0, .slice none 0 0] ?_; intro gb41 hg w5 hbox hb; have BK41 := Aside0.mk hbox; have GW41 := Aside0.mk (zh hg : w.heap.size ≤ gb41); have NB451_452 := zl BK37 hg; have NB452_451 := zL BK37 hg; have GE41 := GW41; replace BK37 := zw BK37 hb; replace HB := Aside0.mk (below_step zb hb); clear hb hbox hg) | ((with_reducible refine gate_callee (f := 50) rfl ?_); refine zj 6 Try.func50 #[.pointer (some ⟨gb37, 0, none⟩)] ?_; (with_reducible refine (spec_l6Fault.calls k a0_0 a0_1 _ _ l0_2 _ _ l0_3 t43 _ ?side1 ?side2 ?side3 ?side4 A2.out).mono ?_); (case side1 => exact zc (Kd.C_below HR0_2.out HB.out)); (case side2 => exact HC0_2.out); (case side3 => exact zc (Kd.C_below HR0_3.out HB.out)); (case side4 => exact HC0_3.out); rintro e w6 ⟨rfl, hb⟩; refine ⟨_, rfl, ?_⟩; replace BK37 := zw BK37 hb; replace BK41 := zw BK41 hb; replace HB := Aside0.mk (below_step zb hb); (try clear hb); (try clear hb2); (try clear hk); (try clear hi)) | ((with_reducible refine gate_dst (N := 4) rfl ?_); refine zE 4 63 #[.int .i64 0, .slice none 0 0] ?_; intro gb42 hg w7 hbox hb; have BK42 := Aside0.mk hbox; have GW42 := Aside0.mk (zh hg : w.heap.size ≤ gb42); have NB451_454 := zl BK37 hg; have NB454_451 := zL BK37 hg; have NB452_454 := zl BK41 hg; have NB454_452 := zL BK41 hg; have GE42 := GW42; replace BK37 := zw BK37 hb; replace BK41 := zw BK41 hb; replace HB := Aside0.mk (below_step zb hb); clear hb hbox hg; have hnb8 := NB454_451.out; have hnc8 := NB451_454.out; have hnb9 := NB454_452.out; have hnc9 := NB452_454.out; obtain ⟨z10_0, z10_1, j10_0, j10_1⟩ := Lv.blks2 BK42.out))
  go_loopg [5] k (fun kq v5 w' => ∃ (x5_1 : Int) (x38_1 : List Int) (u455001 : Value), v5 = .int .i64 x5_1 ∧ Aside0 (spec_OpenTxns.l0 kq x5_1 a0_0 a0_1 l0_2 l0_3 0 x38_1 = some (r1, r2)) ∧ Aside0 (kq ≤ k) ∧ Aside0 (Kd.R (Kd.int .i64) 2 w' w.heap.size (fun _ => True) u455001 x38_1) ∧ Aside0 (w'.heap[gb37]? = some (.cells #[.int .i64 a0_0, .int .i64 a0_1, (.slice A0_2 l0_2.length c0_2), (.slice A0_3 l0_3.length c0_3)] 31 (0, 0))) ∧ Aside0 (w'.heap[gb41]? = some (.cells #[.int .i64 0, (.slice none 0 0)] 63 (0, 0))) ∧ Aside0 (w'.heap[gb42]? = some (.cells #[.int .i64 0, u455001] 63 (0, 0))) ∧ Aside0 (Below w.heap.size w w'))
  case atStart => exact ⟨(0), (([] : List Int)), (.slice none 0 0), zs, H', ⟨Nat.le_refl _⟩, ⟨by first | exact Kd.R_nil _ _ _ _ _ | exact Kd.N_nil _ _ _ _ _ | exact Kd.V_nil _ _ _ _ _ | exact Kd.Q_nil _ _ _ _ _ | exact Kd.S_nil _ _ _ _ _⟩, ⟨by refine zQ ?_; refine blk_far ?_ NB451_454.out _; refine zQ ?_; refine blk_far ?_ NB451_454.out _; refine zQ ?_; exact BK37.out⟩, ⟨by refine zQ ?_; refine blk_far ?_ NB452_454.out _; refine zQ ?_; refine blk_far ?_ NB452_454.out _; refine zQ ?_; exact BK41.out⟩, ⟨by refine zQ ?_; refine blk_put (cs := #[.int .i64 0, .slice none 0 0]) ?_ 1 _ rfl; refine zQ ?_; refine blk_put (cs := #[.int .i64 0, .slice none 0 0]) ?_ 0 _ rfl; refine zQ ?_; exact BK42.out⟩, ⟨zb⟩⟩
  case round =>
   clear H'
   try clear p2
   try clear c3
   try clear c3b0
   try clear c3b1
   try clear c5
   try clear c8
   try clear c9
   try clear z10_0 z10_1 j10_0 j10_1
   obtain ⟨x5_1, x38_1, u455001, rfl, HA, HK1, HO_38, BK37, BK41, BK42, HB⟩ := hrel
   cases gk with
   | zero => exact absurd HA.out (by simp [spec_OpenTxns.l0])
   | succ k1 =>
    have H := HA.out
    clear HA
    simp only [spec_OpenTxns.l0] at H
    by_cases c11 : x5_1 < (l0_2.length : Int)
    ·rw [if_pos c11] at H
     have c11b0 : decide (x5_1 < (l0_2.length : Int)) = true := decide_eq_true c11
     clear c11
     by_cases c12 : 0 ≤ x5_1
     ·rw [if_pos c12] at H
      have c12b0 : decide (0 ≤ x5_1) = true := decide_eq_true c12
      clear c12
      by_cases c13 : ((rd_T83 l0_2 x5_1).f2) = 1
      ·rw [if_pos c13] at H
       have c13b0 : (((rd_T83 l0_2 x5_1).f2) == 1) = true := beq_iff_eq.mpr c13
       have c13b1 : (((rd_T83 l0_2 x5_1).f2) != 1) = false := bne_eq_false_iff_eq.mpr c13
       clear c13
       by_cases c14 : x38_1.length < 17592186044416
       ·rw [if_pos c14] at H
        have LMc14 := Aside0.mk c14
        clear c14
        obtain ⟨y44, hy44⟩ : ∃ y_ : List Int, y_ = (x38_1 ++ [(rd_T83 l0_2 x5_1).f0]) := ⟨_, rfl⟩
        replace H : (spec_OpenTxns.l0 k1 (wrap64 (x5_1 + 1)) a0_0 a0_1 l0_2 l0_3 0 y44) = some (r1, r2) := by first | (rw [hy44]; with_reducible exact H) | (have H2_ := (Option.bind_some _ _).symm.trans H; rw [hy44]; with_reducible exact H2_) | (have H2_ := (Option.bind_some _ _).symm.trans H; with_reducible exact H2_) | with_reducible exact H | (rw [hy44]; exact H) | exact H
        have Ny44 := Aside0.mk hy44
        clear hy44
        have H' := Aside0.mk H
        clear H
        have hnb15 := NB451_452.out
        have hnc15 := NB452_451.out
        have hnb16 := NB451_454.out
        have hnc16 := NB454_451.out
        obtain ⟨z17_0, z17_1, z17_2, z17_3, j17_0, j17_1, j17_2, j17_3⟩ := Lv.blks4 BK37.out
        have p455 : 0 ≤ (x5_1 : Int) := of_decide_eq_true za
        have q40 : x5_1 < (l0_2.length : Int) := of_decide_eq_true za
        obtain ⟨ad40, A40_4, c40_4, e455, hx40_0, hx40_1, hx40_2, hx40_3, hx40_4, hl40_4, hi455_4⟩ := at_T83 HR0_2.out x5_1 p455 q40
        cases e455
        replace hx40_0 := zx HB hx40_0
        replace hx40_1 := zx HB hx40_1
        replace hx40_2 := zx HB hx40_2
        replace hx40_3 := zx HB hx40_3
        replace hx40_4 := zx HB hx40_4
        have HR455_4 := Aside0.mk hi455_4
        have HC455_4 := Aside0.mk hl40_4
        clear hi455_4 hl40_4
        replace p455 := eq_true p455
        replace q40 := eq_true q40
        try go_wp2
        replace HO_38 := Aside0.mk (Kd.R_drew HO_38.out)
        replace BK37 := Aside0.mk (blk_drew BK37.out)
        replace BK41 := Aside0.mk (blk_drew BK41.out)
        replace BK42 := Aside0.mk (blk_drew BK42.out)
        replace HB := Aside0.mk (below_drew1 HB.out)
        have p456 : 0 ≤ (x5_1 : Int) := of_decide_eq_true za
        have q39 : x5_1 < (l0_2.length : Int) := of_decide_eq_true za
        obtain ⟨ad39, A39_4, c39_4, e456, hx39_0, hx39_1, hx39_2, hx39_3, hx39_4, hl39_4, hi456_4⟩ := at_T83 HR0_2.out x5_1 p456 q39
        have hw39_4 := hx39_4
        have hw39_3 := hx39_3
        have hw39_2 := hx39_2
        have hw39_1 := hx39_1
        have hw39_0 := hx39_0
        obtain rfl : ad40 = ad39 := (by injection e456)
        replace hx39_0 := zx HB hx39_0
        replace hx39_1 := zx HB hx39_1
        replace hx39_2 := zx HB hx39_2
        replace hx39_3 := zx HB hx39_3
        replace hx39_4 := zx HB hx39_4
        have HR456_4 := Aside0.mk hi456_4
        have HC456_4 := Aside0.mk hl39_4
        clear hi456_4 hl39_4
        replace p456 := eq_true p456
        replace q39 := eq_true q39
        refine start_ (n := 12) (S := fun w' => w'.cell? ⟨gb42, 0, none⟩ = some (.int .i64 0) ∧ w'.cell? ⟨gb42, 1, none⟩ = some (u455001) ∧ w'.cell? ⟨gb37, 0, none⟩ = some (.int .i64 a0_0) ∧ w'.cell? ⟨gb37, 1, none⟩ = some (.int .i64 a0_1) ∧ w'.cell? ⟨gb37, 2, none⟩ = some (.slice (some ad40) l0_2.length c0_2) ∧ w'.cell? ⟨gb37, 3, none⟩ = some (.slice A0_3 l0_3.length c0_3) ∧ w'.cell? (ad40.add ((x5_1).toNat * 5)) = some (.int .i64 ((rd_T83 l0_2 x5_1).f0)) ∧ w'.cell? ⟨(ad40.add ((x5_1).toNat * 5)).block, (ad40.add ((x5_1).toNat * 5)).off + 1, none⟩ = some (.int .i64 ((rd_T83 l0_2 x5_1).f1)) ∧ w'.cell? ⟨(ad40.add ((x5_1).toNat * 5)).block, (ad40.add ((x5_1).toNat * 5)).off + 2, none⟩ = some (.int .i64 ((rd_T83 l0_2 x5_1).f2)) ∧ w'.cell? ⟨(ad40.add ((x5_1).toNat * 5)).block, (ad40.add ((x5_1).toNat * 5)).off + 3, none⟩ = some (.int .i64 ((rd_T83 l0_2 x5_1).f3)) ∧ w'.cell? ⟨(ad40.add ((x5_1).toNat * 5)).block, (ad40.add ((x5_1).toNat * 5)).off + 4, none⟩ = some (.slice A39_4 ((rd_T83 l0_2 x5_1).f4).length c39_4)) (ds := [11]) #[Z, Z, Z, Z, Z, Z, Z, Z, Z, Z, Z, Z] (by kernel_rfl) rfl rfl ⟨(blk_cell BK42.out 0).trans rfl, (blk_cell BK42.out 1).trans rfl, (blk_cell BK37.out 0).trans rfl, (blk_cell BK37.out 1).trans rfl, (blk_cell BK37.out 2).trans rfl, (blk_cell BK37.out 3).trans rfl, ((HB.out.cell (World.block_lt_of_cell? w _ hw39_0)).trans hw39_0), ((HB.out.cell (World.block_lt_of_cell? w _ hw39_1)).trans hw39_1), ((HB.out.cell (World.block_lt_of_cell? w _ hw39_2)).trans hw39_2), ((HB.out.cell (World.block_lt_of_cell? w _ hw39_3)).trans hw39_3), ((HB.out.cell (World.block_lt_of_cell? w _ hw39_4)).trans hw39_4)⟩ (fun hHeld => ?_); refine with_tabW spec_OpenTxns.tab9 spec_OpenTxns.bits9 (fun HT_ HW_ => ?_)
        generalize wr.drew = w18 at HO_38 BK37 BK41 BK42 HB HR456_4 hx39_0 hx39_1 hx39_2 hx39_3 hx39_4 hHeld ⊢
        refine zp 0 26 ?_; refine zp 2 28 ?_; refine zp 4 30 ?_; refine zt 1 27 ?_; refine zt 3 29 ?_; refine zp 5 31 ?_; refine zp 6 32 ?_; refine zt 7 33 ?_
        refine one_ (i := 8) (N := some 34) #[Y, Y, Y, Y, Y, Y, Y, Y, Y, Z, Z, Z] rfl rfl (one_of HT_.out (by kernel_rfl)) (by decide) (fun K hK => ?_)
        refine value_ (w1 := ?_) (v := ?_) (by rfl) rfl ?_ ?_
        rotate_left 2
        ·go_simp
         constructor
         ·rfl
         rfl
        refine hK.out _ _ ⟨(blk_cell (blk_alloc BK42.out _) 0).trans rfl, (blk_cell (blk_alloc BK42.out _) 1).trans rfl, (blk_cell (blk_alloc BK37.out _) 0).trans rfl, (blk_cell (blk_alloc BK37.out _) 1).trans rfl, (blk_cell (blk_alloc BK37.out _) 2).trans rfl, (blk_cell (blk_alloc BK37.out _) 3).trans rfl, (World.cell?_alloc_lt _ _ _ (World.block_lt_of_cell? _ _ (((HB.out.cell (World.block_lt_of_cell? w _ hw39_0)).trans hw39_0)))).trans (((HB.out.cell (World.block_lt_of_cell? w _ hw39_0)).trans hw39_0)), (World.cell?_alloc_lt _ _ _ (World.block_lt_of_cell? _ _ (((HB.out.cell (World.block_lt_of_cell? w _ hw39_1)).trans hw39_1)))).trans (((HB.out.cell (World.block_lt_of_cell? w _ hw39_1)).trans hw39_1)), (World.cell?_alloc_lt _ _ _ (World.block_lt_of_cell? _ _ (((HB.out.cell (World.block_lt_of_cell? w _ hw39_2)).trans hw39_2)))).trans (((HB.out.cell (World.block_lt_of_cell? w _ hw39_2)).trans hw39_2)), (World.cell?_alloc_lt _ _ _ (World.block_lt_of_cell? _ _ (((HB.out.cell (World.block_lt_of_cell? w _ hw39_3)).trans hw39_3)))).trans (((HB.out.cell (World.block_lt_of_cell? w _ hw39_3)).trans hw39_3)), (World.cell?_alloc_lt _ _ _ (World.block_lt_of_cell? _ _ (((HB.out.cell (World.block_lt_of_cell? w _ hw39_4)).trans hw39_4)))).trans (((HB.out.cell (World.block_lt_of_cell? w _ hw39_4)).trans hw39_4))⟩ (fun hHeld => ?_)
        clear hK K
        refine norm_ (a' := ?_) ?_ ?_
        rotate_left
        ·show Act.put _ (some 34) _ = _
         simp only [Act.put, List.setIfInBounds_toArray, List.set_cons_zero, List.set_cons_succ, i64_w, i32_w]
         rfl
        refine one_ (i := 9) (N := some 35) #[Y, Y, Y, Y, Y, Y, Y, Y, Y, Y, Z, Z] rfl rfl (one_of HT_.out (by kernel_rfl)) (by decide) (fun K hK => ?_)
        refine Kd.R_append_step (Kd.int .i64) (w0 := w) w.heap.size (by rfl) (.tmp 27) (.tmp 34) 61 2 (.int .i64 0) 8 rfl Try.underlying61 info2 rfl (by decide) (by omega) u455001 x38_1 ((rd_T83 l0_2 x5_1).f0) [.int .i64 ((rd_T83 l0_2 x5_1).f0)] (fun _ => True) (fun _ => False) rfl rfl ?aP (fun _ hk => hk.elim) ?aF ?aO ?aB ?aS ?aL ?_
        (case aP => exact rfl)
        (case aB => exact zb)
        (case aF => exact (fun _ _ => trivial))
        (case aO => exact (zr HO_38))
        (case aS => exact (below_size zb))
        (case aL => have := LMc14.out; omega)
        intro v46 w19 ho hb hg hat
        rw [← Ny44.out] at ho
        have HO45 := Aside0.mk ho
        replace BK37 := Aside0.mk (blk_grown (g := gb37) (o := .cells #[.int .i64 a0_0, .int .i64 a0_1, .slice (some ad40) l0_2.length c0_2, .slice A0_3 l0_3.length c0_3] 31 (0, 0)) zk hg (Kd.R_ne HO_38.out BK37.out (by decide)))
        replace BK41 := Aside0.mk (blk_grown (g := gb41) (o := .cells #[.int .i64 0, .slice none 0 0] 63 (0, 0)) zk hg (Kd.R_ne HO_38.out BK41.out (by decide)))
        replace BK42 := Aside0.mk (blk_grown (g := gb42) (o := .cells #[.int .i64 0, u455001] 63 (0, 0)) zk hg (Kd.R_ne HO_38.out BK42.out (by decide)))
        replace HB := Aside0.mk hb
        clear HO_38
        clear ho hb hg hat
        obtain ⟨Ao20, co20, eo20⟩ := Kd.R_slice HO45.out
        (first | subst eo20 | (injection eo20 with f1_ f2_ f3_; have f4_ := f1_.symm; have f5_ := f3_.symm; clear f1_ f2_ f3_; subst f4_; subst f5_))
        refine hK.out _ _ ⟨(blk_cell BK42.out 0).trans rfl, (blk_cell BK42.out 1).trans rfl, (blk_cell BK37.out 0).trans rfl, (blk_cell BK37.out 1).trans rfl, (blk_cell BK37.out 2).trans rfl, (blk_cell BK37.out 3).trans rfl, ((HB.out.cell (World.block_lt_of_cell? w _ hw39_0)).trans hw39_0), ((HB.out.cell (World.block_lt_of_cell? w _ hw39_1)).trans hw39_1), ((HB.out.cell (World.block_lt_of_cell? w _ hw39_2)).trans hw39_2), ((HB.out.cell (World.block_lt_of_cell? w _ hw39_3)).trans hw39_3), ((HB.out.cell (World.block_lt_of_cell? w _ hw39_4)).trans hw39_4)⟩ (fun hHeld => ?_)
        clear hK K
        refine norm_ (a' := ?_) ?_ ?_
        rotate_left
        ·show Act.put _ (some 35) _ = _
         simp only [Act.put, List.setIfInBounds_toArray, List.set_cons_zero, List.set_cons_succ, i64_w, i32_w]
         rfl
        refine zp 10 36 ?_
        refine last_ (i := 11) (N := none) #[Y, Y, Y, Y, Y, Y, Y, Y, Y, Y, Y, Y] rfl rfl (one_of HT_.out (by kernel_rfl)) (by decide) (fun K hK => ?_)
        have hs21 : w19.cell? ⟨gb42, 1, none⟩ = some (u455001) := (blk_cell BK42.out 1).trans rfl
        have hfs21 := blk_frozen BK42.out 1
        have hns21_0 := NB451_454.out
        have hns21_1 := NB452_454.out
        have hms21_0 := NB454_451.out
        have hms21_1 := NB454_452.out
        refine skip_ (w1 := ?_) (by rfl) rfl ?_ ?_
        rotate_left
        ·go_simp
         rfl
        refine hK.out _ _ ?_
        clear hK K
        refine done_ (done_of HT_.out (by kernel_rfl)) ?_
        try go_wp2
        go_roundg k1
        case measure => have := HK1.out; omega
        case rel => exact ⟨(wrap64 (x5_1 + 1)), (y44), (.slice Ao20 y44.length co20), zs, H', ⟨by have := HK1.out; omega⟩, ⟨by refine zR ?_; exact Kd.R_mono (Kd.R_far (p := ⟨gb42, 1, none⟩) (Kd.R_types HO45.out BK42.out (by decide)) (fun _ hk => hk.2) (.slice Ao20 y44.length co20)) (fun _ hk => trivial)⟩, ⟨by refine zQ ?_; refine blk_far ?_ NB451_454.out _; refine zQ ?_; exact BK37.out⟩, ⟨by refine zQ ?_; refine blk_far ?_ NB452_454.out _; refine zQ ?_; exact BK41.out⟩, ⟨by refine zQ ?_; refine blk_put (cs := #[.int .i64 0, u455001]) ?_ 1 _ rfl; refine zQ ?_; exact BK42.out⟩, ⟨zb⟩⟩
       rw [if_neg c14] at H
       exact absurd H (by simp)
      rw [if_neg c13] at H
      have c13b0 : (((rd_T83 l0_2 x5_1).f2) == 1) = false := beq_eq_false_iff_ne.mpr c13
      have c13b1 : (((rd_T83 l0_2 x5_1).f2) != 1) = true := bne_iff_ne.mpr c13
      have H' := Aside0.mk H
      clear H
      have hnb22 := NB451_452.out
      have hnc22 := NB452_451.out
      have hnb23 := NB451_454.out
      have hnc23 := NB454_451.out
      obtain ⟨z24_0, z24_1, z24_2, z24_3, j24_0, j24_1, j24_2, j24_3⟩ := Lv.blks4 BK37.out
      have p455 : 0 ≤ (x5_1 : Int) := of_decide_eq_true za
      have q40 : x5_1 < (l0_2.length : Int) := of_decide_eq_true za
      obtain ⟨ad40, A40_4, c40_4, e455, hx40_0, hx40_1, hx40_2, hx40_3, hx40_4, hl40_4, hi455_4⟩ := at_T83 HR0_2.out x5_1 p455 q40
      cases e455
      replace hx40_0 := zx HB hx40_0
      replace hx40_1 := zx HB hx40_1
      replace hx40_2 := zx HB hx40_2
      replace hx40_3 := zx HB hx40_3
      replace hx40_4 := zx HB hx40_4
      have HR455_4 := Aside0.mk hi455_4
      have HC455_4 := Aside0.mk hl40_4
      clear hi455_4 hl40_4
      replace p455 := eq_true p455
      replace q40 := eq_true q40
      go_wp2
      go_roundg k1
      case measure => have := HK1.out; omega
      case rel => exact ⟨(wrap64 (x5_1 + 1)), (x38_1), (u455001), zs, H', ⟨by have := HK1.out; omega⟩, ⟨zr HO_38⟩, ⟨zq BK37⟩, ⟨zq BK41⟩, ⟨zq BK42⟩, ⟨zb⟩⟩
     rw [if_neg c12] at H
     exact absurd H (by simp)
    rw [if_neg c11] at H
    have c11b0 : decide (x5_1 < (l0_2.length : Int)) = false := decide_eq_false c11
    clear c11
    simp only [Option.some.injEq, Prod.mk.injEq] at H
    obtain ⟨rfl, rfl⟩ := H
    have hnb25 := NB451_452.out
    have hnc25 := NB452_451.out
    have hnb26 := NB451_454.out
    have hnc26 := NB454_451.out
    obtain ⟨z27_0, z27_1, z27_2, z27_3, j27_0, j27_1, j27_2, j27_3⟩ := Lv.blks4 BK37.out
    have hnb28 := NB454_452.out
    have hnc28 := NB452_454.out
    obtain ⟨z29_0, z29_1, j29_0, j29_1⟩ := Lv.blks2 BK42.out
    obtain ⟨z30_0, z30_1, j30_0, j30_1⟩ := Lv.blks2 BK41.out
    obtain ⟨Ao31, co31, eo31⟩ := Kd.R_slice HO_38.out
    subst eo31
    go_wp2
    refine bodyPost_ret (results_cell_row rfl _ _ gb41 63 #[.int .i64 0, .slice Ao31 x38_1.length co31] (0, 0) _ rfl (by refine zQ ?_; refine blk_put (cs := #[.int .i64 0, .slice none 0 0]) ?_ 1 _ rfl; refine zQ ?_; refine blk_put (cs := #[.int .i64 0, .slice none 0 0]) ?_ 0 _ rfl; refine zQ ?_; exact BK41.out) Try.underlying63 rfl (by kernel_rfl)) rfl ?_
    exact ⟨_, ze, by refine zR ?_; exact Kd.R_mono (Kd.R_far (p := ⟨gb41, 1, none⟩) (Kd.R_far (p := ⟨gb41, 0, none⟩) (Kd.R_types HO_38.out BK41.out (by decide)) (fun _ hk => hk.2) (.int .i64 0)) (fun _ hk => hk.2) (.slice Ao31 x38_1.length co31)) (fun _ hk => trivial), zb⟩
 rw [if_neg c3] at H
 have c3b0 : (t43 == 0) = false := beq_eq_false_iff_ne.mpr c3
 have c3b1 : (t43 != 0) = true := bne_iff_ne.mpr c3
 simp only [Option.some.injEq, Prod.mk.injEq] at H
 obtain ⟨rfl, rfl⟩ := H
 go_enter Try.func36, Try.ntmps36
 go_wp2_with (first | ((with_reducible refine gate_dst (N := 1) rfl ?_); refine zE 1 31 #[.int .i64 a0_0, .int .i64 a0_1, .slice A0_2 l0_2.length c0_2, .slice A0_3 l0_3.length c0_3] ?_; intro gb37 hg w32 hbox hb; have BK37 := Aside0.mk hbox; have GW37 := Aside0.mk (zh hg : w.heap.size ≤ gb37); have GE37 := GW37; replace HB := Aside0.mk (below_step zb hb); clear hb hbox hg) | ((with_reducible refine gate_dst (N := 2) rfl ?_); refine zE 2 63 #[.int .i64 0, .slice none 0 0] ?_; intro gb41 hg w33 hbox hb; have BK41 := Aside0.mk hbox; have GW41 := Aside0.mk (zh hg : w.heap.size ≤ gb41); have NB451_452 := zl BK37 hg; have NB452_451 := zL BK37 hg; have GE41 := GW41; replace BK37 := zw BK37 hb; replace HB := Aside0.mk (below_step zb hb); clear hb hbox hg) | ((with_reducible refine gate_callee (f := 50) rfl ?_); refine zj 6 Try.func50 #[.pointer (some ⟨gb37, 0, none⟩)] ?_; (with_reducible refine (spec_l6Fault.calls k a0_0 a0_1 _ _ l0_2 _ _ l0_3 t43 _ ?side1 ?side2 ?side3 ?side4 A2.out).mono ?_); (case side1 => exact zc (Kd.C_below HR0_2.out HB.out)); (case side2 => exact HC0_2.out); (case side3 => exact zc (Kd.C_below HR0_3.out HB.out)); (case side4 => exact HC0_3.out); rintro e w34 ⟨rfl, hb⟩; refine ⟨_, rfl, ?_⟩; replace BK37 := zw BK37 hb; replace BK41 := zw BK41 hb; replace HB := Aside0.mk (below_step zb hb); (try clear hb); (try clear hb2); (try clear hk); (try clear hi); have hnb35 := NB452_451.out; have hnc35 := NB451_452.out; obtain ⟨z36_0, z36_1, j36_0, j36_1⟩ := Lv.blks2 BK41.out))
 refine bodyPost_ret (results_cell_row rfl _ _ gb41 63 #[.int .i64 t43, .slice none 0 0] (0, 0) _ rfl (by refine zQ ?_; refine blk_put (cs := #[.int .i64 t43, .slice none 0 0]) ?_ 1 _ rfl; refine zQ ?_; refine blk_put (cs := #[.int .i64 0, .slice none 0 0]) ?_ 0 _ rfl; refine zQ ?_; exact BK41.out) Try.underlying63 rfl (by kernel_rfl)) rfl ?_
 exact ⟨_, ze, by first | exact Kd.R_nil _ _ _ _ _ | exact Kd.N_nil _ _ _ _ _ | exact Kd.V_nil _ _ _ _ _ | exact Kd.Q_nil _ _ _ _ _ | exact Kd.S_nil _ _ _ _ _, zb⟩
set_option maxHeartbeats 8000000 in
set_option maxRecDepth 100000 in
theorem impl_Engine_open.calls (k : Nat) (a0_0 : Int) (a0_1 : Int) (A0_2 : Option Addr) (c0_2 : Nat) (l0_2 : List (S83)) (A0_3 : Option Addr) (c0_3 : Nat) (l0_3 : List (S87)) (r : List Int) (w : World) (hr0_2 : Kd.C k83 w A0_2 l0_2.length l0_2) (hc0_2 : l0_2.length ≤ c0_2) (hr0_3 : Kd.C k87 w A0_3 l0_3.length l0_3) (hc0_3 : l0_3.length ≤ c0_3) (h : impl_Engine_open.f k a0_0 a0_1 l0_2 l0_3 = some r) :
 Calls Try.prog 93 #[.agg #[.int .i64 a0_0, .int .i64 a0_1, .slice A0_2 l0_2.length c0_2, .slice A0_3 l0_3.length c0_3]] w fun e w' => ∃ v0_ : Value, e = .returned (v0_) ∧ Kd.R (Kd.int .i64) 2 w' w.heap.size (fun _ => True) v0_ r ∧ Below w.heap.size w w' := by
 have hu31 := Try.underlying31
 have hu83 := Try.underlying83
 have HR0_2 := Aside0.mk hr0_2
 have HC0_2 := Aside0.mk hc0_2
 clear hr0_2 hc0_2
 have HR0_3 := Aside0.mk hr0_3
 have HC0_3 := Aside0.mk hc0_3
 clear hr0_3 hc0_3
 have HB := Aside0.mk (Below.refl w.heap.size w)
 have H : (impl_Engine_open.l0 k (([] : List Int)) l0_2 (l0_2.length : Int) 0) = some r := h
 clear h
 obtain ⟨y22, hy22⟩ : ∃ y_ : List Int, y_ = (([] : List Int)) := ⟨_, rfl⟩
 replace H : (impl_Engine_open.l0 k y22 l0_2 (l0_2.length : Int) 0) = some r := by first | (rw [hy22]; with_reducible exact H) | (have H2_ := (Option.bind_some _ _).symm.trans H; rw [hy22]; with_reducible exact H2_) | (have H2_ := (Option.bind_some _ _).symm.trans H; with_reducible exact H2_) | with_reducible exact H | (rw [hy22]; exact H) | exact H
 have Ny22 := Aside0.mk hy22
 clear hy22
 have H' := Aside0.mk H
 clear H
 go_enter Try.func93, Try.ntmps93
 go_wp2_with (first | ((with_reducible refine gate_dst (N := 1) rfl ?_); refine zE 1 31 #[.int .i64 a0_0, .int .i64 a0_1, .slice A0_2 l0_2.length c0_2, .slice A0_3 l0_3.length c0_3] ?_; intro gb19 hg w2 hbox hb; have BK19 := Aside0.mk hbox; have GW19 := Aside0.mk (zh hg : w.heap.size ≤ gb19); have GE19 := GW19; replace HB := Aside0.mk (below_step zb hb); clear hb hbox hg) | ((with_reducible refine gate_dst (N := 6) rfl ?_); refine Kd.R_lit (Kd.int .i64) _ 2 ?hg (N := 6) ?hd (xs := ([] : List Int)) (inner := []) (ok := fun _ => True) (okp := fun _ => True) ?hr ?hp (fun _ hk => hk) trivial (Below.refl _ _) (Nat.le_refl _) (by simp) ?_; (case hd => rfl); (case hg => rfl); (case hr => first | (go_simp; done) | (go_simp; rfl)); (case hp => exact (Reps.none _ _)); intro v26 w3 ho4 hb hg_ hnew_; clear hg_ hnew_; (first | rw [← Ny22.out] at ho4 | (simp only [Int.reduceToNat] at ho4; rw [← Ny22.out] at ho4)); have HO24 := Aside0.mk (Kd.R_lower ho4 (below_size zb)); replace BK19 := zw BK19 hb; replace HB := Aside0.mk (below_step zb hb); clear hb ho4; obtain ⟨z5_0, z5_1, z5_2, z5_3, j5_0, j5_1, j5_2, j5_3⟩ := Lv.blks4 BK19.out))
 go_loopg [3, 10] k (fun kq v3 v10 w' => ∃ (x3_1 : List Int) (x10_1 : Int), v10 = .int .i64 x10_1 ∧ Aside0 (impl_Engine_open.l0 kq x3_1 l0_2 (l0_2.length : Int) x10_1 = some r) ∧ Aside0 (kq ≤ k) ∧ Aside0 (Kd.R (Kd.int .i64) 2 w' w.heap.size (fun _ => True) v3 x3_1) ∧ Aside0 (w'.heap[gb19]? = some (.cells #[.int .i64 a0_0, .int .i64 a0_1, (.slice A0_2 l0_2.length c0_2), (.slice A0_3 l0_3.length c0_3)] 31 (0, 0))) ∧ Aside0 (Below w.heap.size w w'))
 case atStart => exact ⟨(y22), (0), zs, H', ⟨Nat.le_refl _⟩, ⟨zr HO24⟩, ⟨zq BK19⟩, ⟨zb⟩⟩
 case round =>
  clear H'
  try clear p2
  try clear z5_0 z5_1 z5_2 z5_3 j5_0 j5_1 j5_2 j5_3
  obtain ⟨x3_1, x10_1, rfl, HA, HK1, HO_3, BK19, HB⟩ := hrel
  cases gk with
  | zero => exact absurd HA.out (by simp [impl_Engine_open.l0])
  | succ k1 =>
   have H := HA.out
   clear HA
   simp only [impl_Engine_open.l0] at H
   by_cases c6 : x10_1 < (l0_2.length : Int)
   ·rw [if_pos c6] at H
    have c6b0 : decide (x10_1 < (l0_2.length : Int)) = true := decide_eq_true c6
    clear c6
    by_cases c7 : 0 ≤ x10_1
    ·rw [if_pos c7] at H
     have c7b0 : decide (0 ≤ x10_1) = true := decide_eq_true c7
     clear c7
     by_cases c8 : x10_1 < (l0_2.length : Int)
     ·rw [if_pos c8] at H
      have c8b0 : decide (x10_1 < (l0_2.length : Int)) = true := decide_eq_true c8
      clear c8
      by_cases c9 : ((rd_T83 l0_2 x10_1).f2) = 1
      ·rw [if_pos c9] at H
       have c9b0 : (((rd_T83 l0_2 x10_1).f2) == 1) = true := beq_iff_eq.mpr c9
       have c9b1 : (((rd_T83 l0_2 x10_1).f2) != 1) = false := bne_eq_false_iff_eq.mpr c9
       clear c9
       by_cases c10 : x3_1.length < 17592186044416
       ·rw [if_pos c10] at H
        have LMc10 := Aside0.mk c10
        clear c10
        obtain ⟨y23, hy23⟩ : ∃ y_ : List Int, y_ = (x3_1 ++ [(rd_T83 l0_2 x10_1).f0]) := ⟨_, rfl⟩
        replace H : (impl_Engine_open.l0 k1 y23 l0_2 (l0_2.length : Int) (wrap64 (x10_1 + 1))) = some r := by first | (rw [hy23]; with_reducible exact H) | (have H2_ := (Option.bind_some _ _).symm.trans H; rw [hy23]; with_reducible exact H2_) | (have H2_ := (Option.bind_some _ _).symm.trans H; with_reducible exact H2_) | with_reducible exact H | (rw [hy23]; exact H) | exact H
        have Ny23 := Aside0.mk hy23
        clear hy23
        have H' := Aside0.mk H
        clear H
        have p464 : 0 ≤ (x10_1 : Int) := of_decide_eq_true za
        have q18 : x10_1 < (l0_2.length : Int) := of_decide_eq_true za
        obtain ⟨ad18, A18_4, c18_4, e464, hx18_0, hx18_1, hx18_2, hx18_3, hx18_4, hl18_4, hi464_4⟩ := at_T83 HR0_2.out x10_1 p464 q18
        cases e464
        replace hx18_0 := zx HB hx18_0
        replace hx18_1 := zx HB hx18_1
        replace hx18_2 := zx HB hx18_2
        replace hx18_3 := zx HB hx18_3
        replace hx18_4 := zx HB hx18_4
        have HR464_4 := Aside0.mk hi464_4
        have HC464_4 := Aside0.mk hl18_4
        clear hi464_4 hl18_4
        replace p464 := eq_true p464
        replace q18 := eq_true q18
        go_wp2_with (first | ((with_reducible refine gate_dst (N := 5) rfl ?_); refine zE 5 83 #[.int .i64 0, .int .i64 0, .int .i64 0, .int .i64 0, .slice none 0 0] ?_; intro gb21 hg w11 hbox hb; have BK21 := Aside0.mk hbox; have GW21 := Aside0.mk (zh hg : w.heap.size ≤ gb21); have NB460_465 := zl BK19 hg; have NB465_460 := zL BK19 hg; have GE21 := GW21; replace HO_3 := Aside0.mk (Kd.R_below (zr HO_3) hb); replace BK19 := zw BK19 hb; replace HB := Aside0.mk (below_step zb hb); clear hb hbox hg; have hnb12 := NB465_460.out; have hnc12 := NB460_465.out; obtain ⟨z13_0, z13_1, z13_2, z13_3, z13_4, j13_0, j13_1, j13_2, j13_3, j13_4⟩ := Lv.blks5 BK21.out) | ((with_reducible refine gate_builtin (b := .append) (xs := #[.tmp 17, .tmp 20]) rfl ?_); at_builtin; refine Kd.R_append (Kd.int .i64) (w0 := w) w.heap.size rfl (.tmp 17) (.tmp 20) 61 2 (.int .i64 0) 8 rfl Try.underlying61 info2 rfl (by decide) (by omega) u3 x3_1 ((rd_T83 l0_2 x10_1).f0) [.int .i64 ((rd_T83 l0_2 x10_1).f0)] (fun _ => True) (fun _ => False) rfl (by first | exact (congrArg (fun n_ => Value.slice (some ⟨n_, 0, none⟩) 1 1) (by simp [World.setCell])) | (go_simp; done) | (go_simp; rfl)) ?aP (fun _ hk => hk.elim) ?aF ?aO ?aB ?aS ?aL ?_; (case aP => exact rfl); (case aB => exact zb); (case aF => exact (fun _ _ => trivial)); (case aO => exact (by refine zR ?_; exact Kd.R_mono (Kd.R_far (p := ⟨gb21, 4, none⟩) (Kd.R_far (p := ⟨gb21, 3, none⟩) (Kd.R_far (p := ⟨gb21, 2, none⟩) (Kd.R_far (p := ⟨gb21, 1, none⟩) (Kd.R_far (p := ⟨gb21, 0, none⟩) (Kd.R_types HO_3.out BK21.out (by decide)) (fun _ hk => hk.2) (.int .i64 ((rd_T83 l0_2 x10_1).f0))) (fun _ hk => hk.2) (.int .i64 ((rd_T83 l0_2 x10_1).f1))) (fun _ hk => hk.2) (.int .i64 ((rd_T83 l0_2 x10_1).f2))) (fun _ hk => hk.2) (.int .i64 ((rd_T83 l0_2 x10_1).f3))) (fun _ hk => hk.2) (.slice A18_4 ((rd_T83 l0_2 x10_1).f4).length c18_4)) (fun _ hk => trivial))); (case aS => exact (below_size zb)); (case aL => have := LMc10.out; omega); intro v27 w14 ho hb hg hat; rw [← Ny23.out] at ho; have HO25 := Aside0.mk ho; replace BK19 := Aside0.mk (blk_grown (g := gb19) (o := .cells #[.int .i64 a0_0, .int .i64 a0_1, .slice (some ad18) l0_2.length c0_2, .slice A0_3 l0_3.length c0_3] 31 (0, 0)) (by refine zQ ?_; refine blk_far ?_ NB460_465.out _; refine zQ ?_; refine blk_far ?_ NB460_465.out _; refine zQ ?_; refine blk_far ?_ NB460_465.out _; refine zQ ?_; refine blk_far ?_ NB460_465.out _; refine zQ ?_; refine blk_far ?_ NB460_465.out _; refine zQ ?_; exact BK19.out) hg (Kd.R_ne HO_3.out BK19.out (by decide))); replace BK21 := Aside0.mk (blk_grown (g := gb21) (o := .cells #[.int .i64 ((rd_T83 l0_2 x10_1).f0), .int .i64 ((rd_T83 l0_2 x10_1).f1), .int .i64 ((rd_T83 l0_2 x10_1).f2), .int .i64 ((rd_T83 l0_2 x10_1).f3), .slice A18_4 ((rd_T83 l0_2 x10_1).f4).length c18_4] 83 (0, 0)) (by refine zQ ?_; refine blk_put (cs := #[.int .i64 ((rd_T83 l0_2 x10_1).f0), .int .i64 ((rd_T83 l0_2 x10_1).f1), .int .i64 ((rd_T83 l0_2 x10_1).f2), .int .i64 ((rd_T83 l0_2 x10_1).f3), .slice none 0 0]) ?_ 4 _ rfl; refine zQ ?_; refine blk_put (cs := #[.int .i64 ((rd_T83 l0_2 x10_1).f0), .int .i64 ((rd_T83 l0_2 x10_1).f1), .int .i64 ((rd_T83 l0_2 x10_1).f2), .int .i64 0, .slice none 0 0]) ?_ 3 _ rfl; refine zQ ?_; refine blk_put (cs := #[.int .i64 ((rd_T83 l0_2 x10_1).f0), .int .i64 ((rd_T83 l0_2 x10_1).f1), .int .i64 0, .int .i64 0, .slice none 0 0]) ?_ 2 _ rfl; refine zQ ?_; refine blk_put (cs := #[.int .i64 ((rd_T83 l0_2 x10_1).f0), .int .i64 0, .int .i64 0, .int .i64 0, .slice none 0 0]) ?_ 1 _ rfl; refine zQ ?_; refine blk_put (cs := #[.int .i64 0, .int .i64 0, .int .i64 0, .int .i64 0, .slice none 0 0]) ?_ 0 _ rfl; refine zQ ?_; exact BK21.out) hg (Kd.R_ne HO_3.out BK21.out (by decide))); replace HB := Aside0.mk hb; clear HO_3; clear ho hb hg hat))
        go_roundg k1
        case measure => have := HK1.out; omega
        case rel => exact ⟨(y23), (wrap64 (x10_1 + 1)), zs, H', ⟨by have := HK1.out; omega⟩, ⟨zr HO25⟩, ⟨zq BK19⟩, ⟨zb⟩⟩
       rw [if_neg c10] at H
       exact absurd H (by simp)
      rw [if_neg c9] at H
      have c9b0 : (((rd_T83 l0_2 x10_1).f2) == 1) = false := beq_eq_false_iff_ne.mpr c9
      have c9b1 : (((rd_T83 l0_2 x10_1).f2) != 1) = true := bne_iff_ne.mpr c9
      have H' := Aside0.mk H
      clear H
      have p464 : 0 ≤ (x10_1 : Int) := of_decide_eq_true za
      have q18 : x10_1 < (l0_2.length : Int) := of_decide_eq_true za
      obtain ⟨ad18, A18_4, c18_4, e464, hx18_0, hx18_1, hx18_2, hx18_3, hx18_4, hl18_4, hi464_4⟩ := at_T83 HR0_2.out x10_1 p464 q18
      cases e464
      replace hx18_0 := zx HB hx18_0
      replace hx18_1 := zx HB hx18_1
      replace hx18_2 := zx HB hx18_2
      replace hx18_3 := zx HB hx18_3
      replace hx18_4 := zx HB hx18_4
      have HR464_4 := Aside0.mk hi464_4
      have HC464_4 := Aside0.mk hl18_4
      clear hi464_4 hl18_4
      replace p464 := eq_true p464
      replace q18 := eq_true q18
      go_wp2_with (first | ((with_reducible refine gate_dst (N := 5) rfl ?_); refine zE 5 83 #[.int .i64 0, .int .i64 0, .int .i64 0, .int .i64 0, .slice none 0 0] ?_; intro gb21 hg w15 hbox hb; have BK21 := Aside0.mk hbox; have GW21 := Aside0.mk (zh hg : w.heap.size ≤ gb21); have NB460_465 := zl BK19 hg; have NB465_460 := zL BK19 hg; have GE21 := GW21; replace HO_3 := Aside0.mk (Kd.R_below (zr HO_3) hb); replace BK19 := zw BK19 hb; replace HB := Aside0.mk (below_step zb hb); clear hb hbox hg; have hnb16 := NB465_460.out; have hnc16 := NB460_465.out; obtain ⟨z17_0, z17_1, z17_2, z17_3, z17_4, j17_0, j17_1, j17_2, j17_3, j17_4⟩ := Lv.blks5 BK21.out))
      go_roundg k1
      case measure => have := HK1.out; omega
      case rel => exact ⟨(x3_1), (wrap64 (x10_1 + 1)), zs, H', ⟨by have := HK1.out; omega⟩, ⟨by refine zR ?_; exact Kd.R_mono (Kd.R_far (p := ⟨gb21, 4, none⟩) (Kd.R_far (p := ⟨gb21, 3, none⟩) (Kd.R_far (p := ⟨gb21, 2, none⟩) (Kd.R_far (p := ⟨gb21, 1, none⟩) (Kd.R_far (p := ⟨gb21, 0, none⟩) (Kd.R_types HO_3.out BK21.out (by decide)) (fun _ hk => hk.2) (.int .i64 ((rd_T83 l0_2 x10_1).f0))) (fun _ hk => hk.2) (.int .i64 ((rd_T83 l0_2 x10_1).f1))) (fun _ hk => hk.2) (.int .i64 ((rd_T83 l0_2 x10_1).f2))) (fun _ hk => hk.2) (.int .i64 ((rd_T83 l0_2 x10_1).f3))) (fun _ hk => hk.2) (.slice A18_4 ((rd_T83 l0_2 x10_1).f4).length c18_4)) (fun _ hk => trivial)⟩, ⟨by refine zQ ?_; refine blk_far ?_ NB460_465.out _; refine zQ ?_; refine blk_far ?_ NB460_465.out _; refine zQ ?_; refine blk_far ?_ NB460_465.out _; refine zQ ?_; refine blk_far ?_ NB460_465.out _; refine zQ ?_; refine blk_far ?_ NB460_465.out _; refine zQ ?_; exact BK19.out⟩, ⟨zb⟩⟩
     rw [if_neg c8] at H
     exact absurd H (by simp)
    rw [if_neg c7] at H
    exact absurd H (by simp)
   rw [if_neg c6] at H
   have c6b0 : decide (x10_1 < (l0_2.length : Int)) = false := decide_eq_false c6
   clear c6
   obtain rfl := Option.some.inj H
   go_wp2
   go_ret
   exact ⟨_, ze, by refine zR ?_; exact HO_3.out, zb⟩
end Go.Proofs.Ytonbnmaelepcbaa.P
