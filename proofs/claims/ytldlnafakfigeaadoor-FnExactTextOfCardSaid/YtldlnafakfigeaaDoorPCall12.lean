import Derived.Test.YtldlnafakfigeaaDoorZz
import Derived.Test.YtldlnafakfigeaaDoorP0
import Derived.Test.YtldlnafakfigeaaDoorPCall11
import Derived.Test.YtldlnafakfigeaaDoorPDall0
import Derived.Test.YtldlnafakfigeaaDoorWRepsOne
import Derived.Test.YtldlnafakfigeaaDoorWTab
import Derived.Test.YtldlnafakfigeaaDoorLv
import Derived.Test.YtldlnafakfigeaaDoorLv
namespace Go.Proofs.YtldlnafakfigeaaDoor.P
open Go.RowKit Go.Proofs.YtldlnafakfigeaaDoorW.PrintWords Go.Proofs.YtldlnafakfigeaaDoorW.PrintLast Go.Proofs.YtldlnafakfigeaaDoorW.PrintMore
attribute [local go_sem] max2_int min2_int max_two min_two max_three min_three max_four min_four   -- for this text's walks alone
set_option linter.unusedVariables false
set_option linter.unusedSimpArgs false
def laws_eqTxnS.T6 : Bool × List (List Nat × List Nat) := (true, [([], []), ([], []), ([0, 1], [0, 1]), ([2], [2]), ([], []), ([], []), ([4, 5], [4, 5]), ([6], [6]), ([3, 7], [3, 7]), ([8], [8])])
def laws_eqTxnS.B6 : List Nat := [0, 0, 3, 7, 0, 0, 48, 112, 255, 511]
theorem laws_eqTxnS.tab6 : rtab .any (opsOf Tryd.f19 6) = laws_eqTxnS.T6 := by kernel_rfl
theorem laws_eqTxnS.bits6 : waitsOk laws_eqTxnS.T6.2 laws_eqTxnS.B6 = true := by kernel_rfl
set_option maxHeartbeats 8000000 in
set_option maxRecDepth 100000 in
theorem laws_eqTxnS.calls (k : Nat) (A0 : Option Addr) (c0 : Nat) (l0 : List (S45)) (A1 : Option Addr) (c1 : Nat) (l1 : List (S45)) (r : Bool) (w : World) (hr0 : Kd.C k45 w A0 l0.length l0) (hc0 : l0.length ≤ c0) (hr1 : Kd.C k45 w A1 l1.length l1) (hc1 : l1.length ≤ c1) (h : laws_eqTxnS.f k l0 l1 = some r) :
 Calls Tryd.prog 19 #[.slice A0 l0.length c0, .slice A1 l1.length c1] w fun e w' => e = .returned (.bool r) ∧ Below w.heap.size w w' := by
 have hu45 := Tryd.underlying45
 have HR0 := Aside0.mk hr0
 have HC0 := Aside0.mk hc0
 clear hr0 hc0
 have HR1 := Aside0.mk hr1
 have HC1 := Aside0.mk hc1
 clear hr1 hc1
 have HB := Aside0.mk (Below.refl w.heap.size w)
 have H : (if (l0.length : Int) = (l1.length : Int) then (laws_eqTxnS.l0 k l0 l1 0) else (some false)) = some r := h
 clear h
 by_cases c3 : (l0.length : Int) = (l1.length : Int)
 ·rw [if_pos c3] at H
  have c3b0 : ((l0.length : Int) == (l1.length : Int)) = true := beq_iff_eq.mpr c3
  have c3b1 : ((l0.length : Int) != (l1.length : Int)) = false := bne_eq_false_iff_eq.mpr c3
  have c3b2 : (l0.length == l1.length) = true := by first | simpa using c3 | (simp at c3 ⊢; omega)
  clear c3
  have H' := Aside0.mk H
  clear H
  go_enter Tryd.func19, Tryd.ntmps19
  go_wp2
  go_loopg [5] k (fun kq v5 w' => ∃ (x5_1 : Int), v5 = .int .i64 x5_1 ∧ Aside0 (laws_eqTxnS.l0 kq l0 l1 x5_1 = some r) ∧ Aside0 (kq ≤ k) ∧ Aside0 (Below w.heap.size w w'))
  case atStart => exact ⟨(0), zs, H', ⟨Nat.le_refl _⟩, ⟨zb⟩⟩
  case round =>
   clear H'
   try clear c1
   try clear p2
   try clear c3
   try clear c3b0
   try clear c3b1
   try clear c3b2
   obtain ⟨x5_1, rfl, HA, HK1, HB⟩ := hrel
   cases gk with
   | zero => exact absurd HA.out (by simp [laws_eqTxnS.l0])
   | succ k1 =>
    have H := HA.out
    clear HA
    simp only [laws_eqTxnS.l0] at H
    by_cases c4 : x5_1 < (l0.length : Int)
    ·rw [if_pos c4] at H
     have c4b0 : decide (x5_1 < (l0.length : Int)) = true := decide_eq_true c4
     clear c4
     by_cases c5 : 0 ≤ x5_1
     ·rw [if_pos c5] at H
      have c5b0 : decide (0 ≤ x5_1) = true := decide_eq_true c5
      clear c5
      by_cases c6 : x5_1 < (l1.length : Int)
      ·rw [if_pos c6] at H
       have c6b0 : decide (x5_1 < (l1.length : Int)) = true := decide_eq_true c6
       clear c6
       replace H := Option.bind_eq_some_iff.mp H
       obtain ⟨t15, A70, H⟩ := H
       replace H : (if t15 = true then (laws_eqTxnS.l0 k1 l0 l1 (wrap64 (x5_1 + 1))) else (some false)) = some r := H
       have A7 := Aside0.mk A70
       clear A70
       by_cases c8 : t15 = true
       ·subst c8
        have H1 : (laws_eqTxnS.l0 k1 l0 l1 (wrap64 (x5_1 + 1))) = some r := by rw [if_pos rfl] at H; exact H
        clear H
        have H := H1
        clear H1
        have H' := Aside0.mk H
        clear H
        try go_wp2
        replace HB := Aside0.mk (below_drew1 HB.out)
        have p292 : 0 ≤ (x5_1 : Int) := of_decide_eq_true za
        have q13 : x5_1 < (l0.length : Int) := of_decide_eq_true za
        obtain ⟨ad13, A13_4, c13_4, e292, hx13_0, hx13_1, hx13_2, hx13_3, hx13_4, hl13_4, hi292_4⟩ := at_T45 HR0.out x5_1 p292 q13
        have hw13_4 := hx13_4
        have hw13_3 := hx13_3
        have hw13_2 := hx13_2
        have hw13_1 := hx13_1
        have hw13_0 := hx13_0
        cases e292
        replace hx13_0 := zx HB hx13_0
        replace hx13_1 := zx HB hx13_1
        replace hx13_2 := zx HB hx13_2
        replace hx13_3 := zx HB hx13_3
        replace hx13_4 := zx HB hx13_4
        have HR292_4 := Aside0.mk hi292_4
        have HC292_4 := Aside0.mk hl13_4
        clear hi292_4 hl13_4
        replace p292 := eq_true p292
        replace q13 := eq_true q13
        have p293 : 0 ≤ (x5_1 : Int) := of_decide_eq_true za
        have q14 : x5_1 < (l1.length : Int) := of_decide_eq_true za
        obtain ⟨ad14, A14_4, c14_4, e293, hx14_0, hx14_1, hx14_2, hx14_3, hx14_4, hl14_4, hi293_4⟩ := at_T45 HR1.out x5_1 p293 q14
        have hw14_4 := hx14_4
        have hw14_3 := hx14_3
        have hw14_2 := hx14_2
        have hw14_1 := hx14_1
        have hw14_0 := hx14_0
        cases e293
        replace hx14_0 := zx HB hx14_0
        replace hx14_1 := zx HB hx14_1
        replace hx14_2 := zx HB hx14_2
        replace hx14_3 := zx HB hx14_3
        replace hx14_4 := zx HB hx14_4
        have HR293_4 := Aside0.mk hi293_4
        have HC293_4 := Aside0.mk hl14_4
        clear hi293_4 hl14_4
        replace p293 := eq_true p293
        replace q14 := eq_true q14
        refine start_ (n := 10) (S := fun w' => w'.cell? (ad13.add ((x5_1).toNat * 5)) = some (.int .i64 ((rd_T45 l0 x5_1).f0)) ∧ w'.cell? ⟨(ad13.add ((x5_1).toNat * 5)).block, (ad13.add ((x5_1).toNat * 5)).off + 1, none⟩ = some (.int .i64 ((rd_T45 l0 x5_1).f1)) ∧ w'.cell? ⟨(ad13.add ((x5_1).toNat * 5)).block, (ad13.add ((x5_1).toNat * 5)).off + 2, none⟩ = some (.int .i64 ((rd_T45 l0 x5_1).f2)) ∧ w'.cell? ⟨(ad13.add ((x5_1).toNat * 5)).block, (ad13.add ((x5_1).toNat * 5)).off + 3, none⟩ = some (.int .i64 ((rd_T45 l0 x5_1).f3)) ∧ w'.cell? ⟨(ad13.add ((x5_1).toNat * 5)).block, (ad13.add ((x5_1).toNat * 5)).off + 4, none⟩ = some (.slice A13_4 ((rd_T45 l0 x5_1).f4).length c13_4) ∧ w'.cell? (ad14.add ((x5_1).toNat * 5)) = some (.int .i64 ((rd_T45 l1 x5_1).f0)) ∧ w'.cell? ⟨(ad14.add ((x5_1).toNat * 5)).block, (ad14.add ((x5_1).toNat * 5)).off + 1, none⟩ = some (.int .i64 ((rd_T45 l1 x5_1).f1)) ∧ w'.cell? ⟨(ad14.add ((x5_1).toNat * 5)).block, (ad14.add ((x5_1).toNat * 5)).off + 2, none⟩ = some (.int .i64 ((rd_T45 l1 x5_1).f2)) ∧ w'.cell? ⟨(ad14.add ((x5_1).toNat * 5)).block, (ad14.add ((x5_1).toNat * 5)).off + 3, none⟩ = some (.int .i64 ((rd_T45 l1 x5_1).f3)) ∧ w'.cell? ⟨(ad14.add ((x5_1).toNat * 5)).block, (ad14.add ((x5_1).toNat * 5)).off + 4, none⟩ = some (.slice A14_4 ((rd_T45 l1 x5_1).f4).length c14_4)) (ds := []) #[Z, Z, Z, Z, Z, Z, Z, Z, Z, Z] (by kernel_rfl) rfl rfl ⟨((HB.out.cell (World.block_lt_of_cell? w _ hw13_0)).trans hw13_0), ((HB.out.cell (World.block_lt_of_cell? w _ hw13_1)).trans hw13_1), ((HB.out.cell (World.block_lt_of_cell? w _ hw13_2)).trans hw13_2), ((HB.out.cell (World.block_lt_of_cell? w _ hw13_3)).trans hw13_3), ((HB.out.cell (World.block_lt_of_cell? w _ hw13_4)).trans hw13_4), ((HB.out.cell (World.block_lt_of_cell? w _ hw14_0)).trans hw14_0), ((HB.out.cell (World.block_lt_of_cell? w _ hw14_1)).trans hw14_1), ((HB.out.cell (World.block_lt_of_cell? w _ hw14_2)).trans hw14_2), ((HB.out.cell (World.block_lt_of_cell? w _ hw14_3)).trans hw14_3), ((HB.out.cell (World.block_lt_of_cell? w _ hw14_4)).trans hw14_4)⟩ (fun hHeld => ?_); refine with_tabW laws_eqTxnS.tab6 laws_eqTxnS.bits6 (fun HT_ HW_ => ?_)
        generalize wr.drew = w9 at HB HR292_4 HR293_4 hx13_0 hx13_1 hx13_2 hx13_3 hx13_4 hx14_0 hx14_1 hx14_2 hx14_3 hx14_4 hHeld ⊢
        refine zp 0 17 ?_; refine zp 1 18 ?_; refine zp 2 19 ?_; refine zp 4 21 ?_; refine zp 5 22 ?_; refine zp 6 23 ?_; refine zt 3 20 ?_; refine zt 7 24 ?_
        refine one_ (i := 8) (N := some 25) #[Y, Y, Y, Y, Y, Y, Y, Y, Y, Z] rfl rfl (one_of HT_.out (by kernel_rfl)) (by decide) (fun K hK => ?_)
        refine goes_ Tryd.func47 (by kernel_rfl) rfl #[.agg #[.int .i64 ((rd_T45 l0 x5_1).f0), .int .i64 ((rd_T45 l0 x5_1).f1), .int .i64 ((rd_T45 l0 x5_1).f2), .int .i64 ((rd_T45 l0 x5_1).f3), .slice A13_4 ((rd_T45 l0 x5_1).f4).length c13_4], .agg #[.int .i64 ((rd_T45 l1 x5_1).f0), .int .i64 ((rd_T45 l1 x5_1).f1), .int .i64 ((rd_T45 l1 x5_1).f2), .int .i64 ((rd_T45 l1 x5_1).f3), .slice A14_4 ((rd_T45 l1 x5_1).f4).length c14_4]] (by rfl) rfl rfl zm ?_
        with_reducible refine (laws_eqTxn.calls k1 ((rd_T45 l0 x5_1).f0) ((rd_T45 l0 x5_1).f1) ((rd_T45 l0 x5_1).f2) ((rd_T45 l0 x5_1).f3) _ _ ((rd_T45 l0 x5_1).f4) ((rd_T45 l1 x5_1).f0) ((rd_T45 l1 x5_1).f1) ((rd_T45 l1 x5_1).f2) ((rd_T45 l1 x5_1).f3) _ _ ((rd_T45 l1 x5_1).f4) true _ ?side1 ?side2 ?side3 ?side4 A7.out).mono ?_
        (case side1 => exact zc (Kd.C_below HR292_4.out HB.out))
        (case side2 => exact HC292_4.out)
        (case side3 => exact zc (Kd.C_below HR293_4.out HB.out))
        (case side4 => exact HC293_4.out)
        rintro e w10 ⟨rfl, hb⟩
        refine ⟨_, rfl, ?_⟩
        replace HB := Aside0.mk (below_step zb hb)
        (try clear hb)
        (try clear hb2)
        (try clear hk)
        (try clear hi)
        refine hK.out _ _ ⟨((HB.out.cell (World.block_lt_of_cell? w _ hw13_0)).trans hw13_0), ((HB.out.cell (World.block_lt_of_cell? w _ hw13_1)).trans hw13_1), ((HB.out.cell (World.block_lt_of_cell? w _ hw13_2)).trans hw13_2), ((HB.out.cell (World.block_lt_of_cell? w _ hw13_3)).trans hw13_3), ((HB.out.cell (World.block_lt_of_cell? w _ hw13_4)).trans hw13_4), ((HB.out.cell (World.block_lt_of_cell? w _ hw14_0)).trans hw14_0), ((HB.out.cell (World.block_lt_of_cell? w _ hw14_1)).trans hw14_1), ((HB.out.cell (World.block_lt_of_cell? w _ hw14_2)).trans hw14_2), ((HB.out.cell (World.block_lt_of_cell? w _ hw14_3)).trans hw14_3), ((HB.out.cell (World.block_lt_of_cell? w _ hw14_4)).trans hw14_4)⟩ (fun hHeld => ?_)
        clear hK K
        refine norm_ (a' := ?_) ?_ ?_
        rotate_left
        ·show Act.put _ (some 25) _ = _
         simp only [Act.put, List.setIfInBounds_toArray, List.set_cons_zero, List.set_cons_succ, i64_w, i32_w]
         rfl
        refine zp 9 26 ?_
        refine done_ (done_of HT_.out (by kernel_rfl)) ?_
        try go_wp2
        go_roundg k1
        case measure => have := HK1.out; omega
        case rel => exact ⟨(wrap64 (x5_1 + 1)), zs, H', ⟨by have := HK1.out; omega⟩, ⟨zb⟩⟩
       replace c8 := Bool.eq_false_iff.mpr c8
       subst c8
       have H1 : (some false) = some r := by rw [if_neg (show ¬ (false = true) by decide)] at H; exact H
       clear H
       have H := H1
       clear H1
       obtain rfl := Option.some.inj H
       try go_wp2
       replace HB := Aside0.mk (below_drew1 HB.out)
       have p292 : 0 ≤ (x5_1 : Int) := of_decide_eq_true za
       have q13 : x5_1 < (l0.length : Int) := of_decide_eq_true za
       obtain ⟨ad13, A13_4, c13_4, e292, hx13_0, hx13_1, hx13_2, hx13_3, hx13_4, hl13_4, hi292_4⟩ := at_T45 HR0.out x5_1 p292 q13
       have hw13_4 := hx13_4
       have hw13_3 := hx13_3
       have hw13_2 := hx13_2
       have hw13_1 := hx13_1
       have hw13_0 := hx13_0
       cases e292
       replace hx13_0 := zx HB hx13_0
       replace hx13_1 := zx HB hx13_1
       replace hx13_2 := zx HB hx13_2
       replace hx13_3 := zx HB hx13_3
       replace hx13_4 := zx HB hx13_4
       have HR292_4 := Aside0.mk hi292_4
       have HC292_4 := Aside0.mk hl13_4
       clear hi292_4 hl13_4
       replace p292 := eq_true p292
       replace q13 := eq_true q13
       have p293 : 0 ≤ (x5_1 : Int) := of_decide_eq_true za
       have q14 : x5_1 < (l1.length : Int) := of_decide_eq_true za
       obtain ⟨ad14, A14_4, c14_4, e293, hx14_0, hx14_1, hx14_2, hx14_3, hx14_4, hl14_4, hi293_4⟩ := at_T45 HR1.out x5_1 p293 q14
       have hw14_4 := hx14_4
       have hw14_3 := hx14_3
       have hw14_2 := hx14_2
       have hw14_1 := hx14_1
       have hw14_0 := hx14_0
       cases e293
       replace hx14_0 := zx HB hx14_0
       replace hx14_1 := zx HB hx14_1
       replace hx14_2 := zx HB hx14_2
       replace hx14_3 := zx HB hx14_3
       replace hx14_4 := zx HB hx14_4
       have HR293_4 := Aside0.mk hi293_4
       have HC293_4 := Aside0.mk hl14_4
       clear hi293_4 hl14_4
       replace p293 := eq_true p293
       replace q14 := eq_true q14
       refine start_ (n := 10) (S := fun w' => w'.cell? (ad13.add ((x5_1).toNat * 5)) = some (.int .i64 ((rd_T45 l0 x5_1).f0)) ∧ w'.cell? ⟨(ad13.add ((x5_1).toNat * 5)).block, (ad13.add ((x5_1).toNat * 5)).off + 1, none⟩ = some (.int .i64 ((rd_T45 l0 x5_1).f1)) ∧ w'.cell? ⟨(ad13.add ((x5_1).toNat * 5)).block, (ad13.add ((x5_1).toNat * 5)).off + 2, none⟩ = some (.int .i64 ((rd_T45 l0 x5_1).f2)) ∧ w'.cell? ⟨(ad13.add ((x5_1).toNat * 5)).block, (ad13.add ((x5_1).toNat * 5)).off + 3, none⟩ = some (.int .i64 ((rd_T45 l0 x5_1).f3)) ∧ w'.cell? ⟨(ad13.add ((x5_1).toNat * 5)).block, (ad13.add ((x5_1).toNat * 5)).off + 4, none⟩ = some (.slice A13_4 ((rd_T45 l0 x5_1).f4).length c13_4) ∧ w'.cell? (ad14.add ((x5_1).toNat * 5)) = some (.int .i64 ((rd_T45 l1 x5_1).f0)) ∧ w'.cell? ⟨(ad14.add ((x5_1).toNat * 5)).block, (ad14.add ((x5_1).toNat * 5)).off + 1, none⟩ = some (.int .i64 ((rd_T45 l1 x5_1).f1)) ∧ w'.cell? ⟨(ad14.add ((x5_1).toNat * 5)).block, (ad14.add ((x5_1).toNat * 5)).off + 2, none⟩ = some (.int .i64 ((rd_T45 l1 x5_1).f2)) ∧ w'.cell? ⟨(ad14.add ((x5_1).toNat * 5)).block, (ad14.add ((x5_1).toNat * 5)).off + 3, none⟩ = some (.int .i64 ((rd_T45 l1 x5_1).f3)) ∧ w'.cell? ⟨(ad14.add ((x5_1).toNat * 5)).block, (ad14.add ((x5_1).toNat * 5)).off + 4, none⟩ = some (.slice A14_4 ((rd_T45 l1 x5_1).f4).length c14_4)) (ds := []) #[Z, Z, Z, Z, Z, Z, Z, Z, Z, Z] (by kernel_rfl) rfl rfl ⟨((HB.out.cell (World.block_lt_of_cell? w _ hw13_0)).trans hw13_0), ((HB.out.cell (World.block_lt_of_cell? w _ hw13_1)).trans hw13_1), ((HB.out.cell (World.block_lt_of_cell? w _ hw13_2)).trans hw13_2), ((HB.out.cell (World.block_lt_of_cell? w _ hw13_3)).trans hw13_3), ((HB.out.cell (World.block_lt_of_cell? w _ hw13_4)).trans hw13_4), ((HB.out.cell (World.block_lt_of_cell? w _ hw14_0)).trans hw14_0), ((HB.out.cell (World.block_lt_of_cell? w _ hw14_1)).trans hw14_1), ((HB.out.cell (World.block_lt_of_cell? w _ hw14_2)).trans hw14_2), ((HB.out.cell (World.block_lt_of_cell? w _ hw14_3)).trans hw14_3), ((HB.out.cell (World.block_lt_of_cell? w _ hw14_4)).trans hw14_4)⟩ (fun hHeld => ?_); refine with_tabW laws_eqTxnS.tab6 laws_eqTxnS.bits6 (fun HT_ HW_ => ?_)
       generalize wr.drew = w11 at HB HR292_4 HR293_4 hx13_0 hx13_1 hx13_2 hx13_3 hx13_4 hx14_0 hx14_1 hx14_2 hx14_3 hx14_4 hHeld ⊢
       refine zp 0 17 ?_; refine zp 1 18 ?_; refine zp 2 19 ?_; refine zp 4 21 ?_; refine zp 5 22 ?_; refine zp 6 23 ?_; refine zt 3 20 ?_; refine zt 7 24 ?_
       refine one_ (i := 8) (N := some 25) #[Y, Y, Y, Y, Y, Y, Y, Y, Y, Z] rfl rfl (one_of HT_.out (by kernel_rfl)) (by decide) (fun K hK => ?_)
       refine goes_ Tryd.func47 (by kernel_rfl) rfl #[.agg #[.int .i64 ((rd_T45 l0 x5_1).f0), .int .i64 ((rd_T45 l0 x5_1).f1), .int .i64 ((rd_T45 l0 x5_1).f2), .int .i64 ((rd_T45 l0 x5_1).f3), .slice A13_4 ((rd_T45 l0 x5_1).f4).length c13_4], .agg #[.int .i64 ((rd_T45 l1 x5_1).f0), .int .i64 ((rd_T45 l1 x5_1).f1), .int .i64 ((rd_T45 l1 x5_1).f2), .int .i64 ((rd_T45 l1 x5_1).f3), .slice A14_4 ((rd_T45 l1 x5_1).f4).length c14_4]] (by rfl) rfl rfl zm ?_
       with_reducible refine (laws_eqTxn.calls k1 ((rd_T45 l0 x5_1).f0) ((rd_T45 l0 x5_1).f1) ((rd_T45 l0 x5_1).f2) ((rd_T45 l0 x5_1).f3) _ _ ((rd_T45 l0 x5_1).f4) ((rd_T45 l1 x5_1).f0) ((rd_T45 l1 x5_1).f1) ((rd_T45 l1 x5_1).f2) ((rd_T45 l1 x5_1).f3) _ _ ((rd_T45 l1 x5_1).f4) false _ ?side1 ?side2 ?side3 ?side4 A7.out).mono ?_
       (case side1 => exact zc (Kd.C_below HR292_4.out HB.out))
       (case side2 => exact HC292_4.out)
       (case side3 => exact zc (Kd.C_below HR293_4.out HB.out))
       (case side4 => exact HC293_4.out)
       rintro e w12 ⟨rfl, hb⟩
       refine ⟨_, rfl, ?_⟩
       replace HB := Aside0.mk (below_step zb hb)
       (try clear hb)
       (try clear hb2)
       (try clear hk)
       (try clear hi)
       refine hK.out _ _ ⟨((HB.out.cell (World.block_lt_of_cell? w _ hw13_0)).trans hw13_0), ((HB.out.cell (World.block_lt_of_cell? w _ hw13_1)).trans hw13_1), ((HB.out.cell (World.block_lt_of_cell? w _ hw13_2)).trans hw13_2), ((HB.out.cell (World.block_lt_of_cell? w _ hw13_3)).trans hw13_3), ((HB.out.cell (World.block_lt_of_cell? w _ hw13_4)).trans hw13_4), ((HB.out.cell (World.block_lt_of_cell? w _ hw14_0)).trans hw14_0), ((HB.out.cell (World.block_lt_of_cell? w _ hw14_1)).trans hw14_1), ((HB.out.cell (World.block_lt_of_cell? w _ hw14_2)).trans hw14_2), ((HB.out.cell (World.block_lt_of_cell? w _ hw14_3)).trans hw14_3), ((HB.out.cell (World.block_lt_of_cell? w _ hw14_4)).trans hw14_4)⟩ (fun hHeld => ?_)
       clear hK K
       refine norm_ (a' := ?_) ?_ ?_
       rotate_left
       ·show Act.put _ (some 25) _ = _
        simp only [Act.put, List.setIfInBounds_toArray, List.set_cons_zero, List.set_cons_succ, i64_w, i32_w]
        rfl
       refine zp 9 26 ?_
       refine done_ (done_of HT_.out (by kernel_rfl)) ?_
       try go_wp2
       go_ret
       exact ⟨ze, zb⟩
      rw [if_neg c6] at H
      exact absurd H (by simp)
     rw [if_neg c5] at H
     exact absurd H (by simp)
    rw [if_neg c4] at H
    have c4b0 : decide (x5_1 < (l0.length : Int)) = false := decide_eq_false c4
    clear c4
    obtain rfl := Option.some.inj H
    go_wp2
    go_ret
    exact ⟨ze, zb⟩
 rw [if_neg c3] at H
 have c3b0 : ((l0.length : Int) == (l1.length : Int)) = false := beq_eq_false_iff_ne.mpr c3
 have c3b1 : ((l0.length : Int) != (l1.length : Int)) = true := bne_iff_ne.mpr c3
 have c3b2 : (l0.length == l1.length) = false := by first | simpa using c3 | (simp at c3 ⊢; omega)
 obtain rfl := Option.some.inj H
 go_enter Tryd.func19, Tryd.ntmps19
 go_wp2
 go_ret
 exact ⟨ze, zb⟩
set_option maxHeartbeats 8000000 in
set_option maxRecDepth 100000 in
theorem laws_eqVersion.calls (a0_0 : Int) (a0_1 : Int) (a0_2 : Bool) (a0_3 : Int) (a1_0 : Int) (a1_1 : Int) (a1_2 : Bool) (a1_3 : Int) (r : Bool) (w : World) (h : laws_eqVersion.f a0_0 a0_1 a0_2 a0_3 a1_0 a1_1 a1_2 a1_3 = some r) :
 Calls Tryd.prog 82 #[.agg #[.int .i64 a0_0, .int .i64 a0_1, .bool a0_2, .int .i64 a0_3], .agg #[.int .i64 a1_0, .int .i64 a1_1, .bool a1_2, .int .i64 a1_3]] w fun e w' => e = .returned (.bool r) ∧ Below w.heap.size w w' := by
 have hu51 := Tryd.underlying51
 have HB := Aside0.mk (Below.refl w.heap.size w)
 have H : (if a0_0 = a1_0 then (if a0_1 = a1_1 then (if (a0_2 != a1_2) = true then (some false) else (if a0_3 = a1_3 then (some true) else (some false))) else (some false)) else (some false)) = some r := h
 clear h
 by_cases c3 : a0_0 = a1_0
 ·rw [if_pos c3] at H
  have c3b0 : (a0_0 == a1_0) = true := beq_iff_eq.mpr c3
  have c3b1 : (a0_0 != a1_0) = false := bne_eq_false_iff_eq.mpr c3
  clear c3
  by_cases c4 : a0_1 = a1_1
  ·rw [if_pos c4] at H
   have c4b0 : (a0_1 == a1_1) = true := beq_iff_eq.mpr c4
   have c4b1 : (a0_1 != a1_1) = false := bne_eq_false_iff_eq.mpr c4
   clear c4
   by_cases c5 : (a0_2 != a1_2) = true
   ·rw [if_pos c5] at H
    have c5b0 : (a0_2 != a1_2) = true := c5
    (try (have c5b1 : decide (a0_2 = a1_2) = false := by simpa using c5))
    (try (have c5b2 : (a0_2 == a1_2) = false := by simpa using c5))
    (try (have c5b3 : ¬ (a0_2 = a1_2) := by simpa using c5))
    clear c5
    obtain rfl := Option.some.inj H
    go_enter Tryd.func82, Tryd.ntmps82
    go_wp2_with (first | ((with_reducible refine gate_dst (N := 2) rfl ?_); refine zE 2 51 #[.int .i64 a0_0, .int .i64 a0_1, .bool a0_2, .int .i64 a0_3] ?_; intro gb32 hg w6 hbox hb; have BK32 := Aside0.mk hbox; have GW32 := Aside0.mk (zh hg : w.heap.size ≤ gb32); have GE32 := GW32; replace HB := Aside0.mk (below_step zb hb); clear hb hbox hg) | ((with_reducible refine gate_dst (N := 3) rfl ?_); refine zE 3 51 #[.int .i64 a1_0, .int .i64 a1_1, .bool a1_2, .int .i64 a1_3] ?_; intro gb33 hg w7 hbox hb; have BK33 := Aside0.mk hbox; have GW33 := Aside0.mk (zh hg : w.heap.size ≤ gb33); have NB295_296 := zl BK32 hg; have NB296_295 := zL BK32 hg; have GE33 := GW33; replace BK32 := zw BK32 hb; replace HB := Aside0.mk (below_step zb hb); clear hb hbox hg; have hnb8 := NB295_296.out; have hnc8 := NB296_295.out; obtain ⟨z9_0, z9_1, z9_2, z9_3, j9_0, j9_1, j9_2, j9_3⟩ := Go.Proofs.YtldlnafakfigeaaDoor.Lv.blks4 BK32.out; obtain ⟨z10_0, z10_1, z10_2, z10_3, j10_0, j10_1, j10_2, j10_3⟩ := Go.Proofs.YtldlnafakfigeaaDoor.Lv.blks4 BK33.out))
    go_ret
    exact ⟨ze, zb⟩
   rw [if_neg c5] at H
   have c5b0 : (a0_2 != a1_2) = false := by simpa using c5
   (try (have c5b1 : decide (a0_2 = a1_2) = true := by simpa using c5))
   (try (have c5b2 : (a0_2 == a1_2) = true := by simpa using c5))
   clear c5
   by_cases c11 : a0_3 = a1_3
   ·rw [if_pos c11] at H
    have c11b0 : (a0_3 == a1_3) = true := beq_iff_eq.mpr c11
    have c11b1 : (a0_3 != a1_3) = false := bne_eq_false_iff_eq.mpr c11
    clear c11
    obtain rfl := Option.some.inj H
    go_enter Tryd.func82, Tryd.ntmps82
    go_wp2_with (first | ((with_reducible refine gate_dst (N := 2) rfl ?_); refine zE 2 51 #[.int .i64 a0_0, .int .i64 a0_1, .bool a0_2, .int .i64 a0_3] ?_; intro gb32 hg w12 hbox hb; have BK32 := Aside0.mk hbox; have GW32 := Aside0.mk (zh hg : w.heap.size ≤ gb32); have GE32 := GW32; replace HB := Aside0.mk (below_step zb hb); clear hb hbox hg) | ((with_reducible refine gate_dst (N := 3) rfl ?_); refine zE 3 51 #[.int .i64 a1_0, .int .i64 a1_1, .bool a1_2, .int .i64 a1_3] ?_; intro gb33 hg w13 hbox hb; have BK33 := Aside0.mk hbox; have GW33 := Aside0.mk (zh hg : w.heap.size ≤ gb33); have NB295_296 := zl BK32 hg; have NB296_295 := zL BK32 hg; have GE33 := GW33; replace BK32 := zw BK32 hb; replace HB := Aside0.mk (below_step zb hb); clear hb hbox hg; have hnb14 := NB295_296.out; have hnc14 := NB296_295.out; obtain ⟨z15_0, z15_1, z15_2, z15_3, j15_0, j15_1, j15_2, j15_3⟩ := Go.Proofs.YtldlnafakfigeaaDoor.Lv.blks4 BK32.out; obtain ⟨z16_0, z16_1, z16_2, z16_3, j16_0, j16_1, j16_2, j16_3⟩ := Go.Proofs.YtldlnafakfigeaaDoor.Lv.blks4 BK33.out))
    go_ret
    exact ⟨ze, zb⟩
   rw [if_neg c11] at H
   have c11b0 : (a0_3 == a1_3) = false := beq_eq_false_iff_ne.mpr c11
   have c11b1 : (a0_3 != a1_3) = true := bne_iff_ne.mpr c11
   obtain rfl := Option.some.inj H
   go_enter Tryd.func82, Tryd.ntmps82
   go_wp2_with (first | ((with_reducible refine gate_dst (N := 2) rfl ?_); refine zE 2 51 #[.int .i64 a0_0, .int .i64 a0_1, .bool a0_2, .int .i64 a0_3] ?_; intro gb32 hg w17 hbox hb; have BK32 := Aside0.mk hbox; have GW32 := Aside0.mk (zh hg : w.heap.size ≤ gb32); have GE32 := GW32; replace HB := Aside0.mk (below_step zb hb); clear hb hbox hg) | ((with_reducible refine gate_dst (N := 3) rfl ?_); refine zE 3 51 #[.int .i64 a1_0, .int .i64 a1_1, .bool a1_2, .int .i64 a1_3] ?_; intro gb33 hg w18 hbox hb; have BK33 := Aside0.mk hbox; have GW33 := Aside0.mk (zh hg : w.heap.size ≤ gb33); have NB295_296 := zl BK32 hg; have NB296_295 := zL BK32 hg; have GE33 := GW33; replace BK32 := zw BK32 hb; replace HB := Aside0.mk (below_step zb hb); clear hb hbox hg; have hnb19 := NB295_296.out; have hnc19 := NB296_295.out; obtain ⟨z20_0, z20_1, z20_2, z20_3, j20_0, j20_1, j20_2, j20_3⟩ := Go.Proofs.YtldlnafakfigeaaDoor.Lv.blks4 BK32.out; obtain ⟨z21_0, z21_1, z21_2, z21_3, j21_0, j21_1, j21_2, j21_3⟩ := Go.Proofs.YtldlnafakfigeaaDoor.Lv.blks4 BK33.out))
   go_ret
   exact ⟨ze, zb⟩
  rw [if_neg c4] at H
  have c4b0 : (a0_1 == a1_1) = false := beq_eq_false_iff_ne.mpr c4
  have c4b1 : (a0_1 != a1_1) = true := bne_iff_ne.mpr c4
  obtain rfl := Option.some.inj H
  go_enter Tryd.func82, Tryd.ntmps82
  go_wp2_with (first | ((with_reducible refine gate_dst (N := 2) rfl ?_); refine zE 2 51 #[.int .i64 a0_0, .int .i64 a0_1, .bool a0_2, .int .i64 a0_3] ?_; intro gb32 hg w22 hbox hb; have BK32 := Aside0.mk hbox; have GW32 := Aside0.mk (zh hg : w.heap.size ≤ gb32); have GE32 := GW32; replace HB := Aside0.mk (below_step zb hb); clear hb hbox hg) | ((with_reducible refine gate_dst (N := 3) rfl ?_); refine zE 3 51 #[.int .i64 a1_0, .int .i64 a1_1, .bool a1_2, .int .i64 a1_3] ?_; intro gb33 hg w23 hbox hb; have BK33 := Aside0.mk hbox; have GW33 := Aside0.mk (zh hg : w.heap.size ≤ gb33); have NB295_296 := zl BK32 hg; have NB296_295 := zL BK32 hg; have GE33 := GW33; replace BK32 := zw BK32 hb; replace HB := Aside0.mk (below_step zb hb); clear hb hbox hg; have hnb24 := NB295_296.out; have hnc24 := NB296_295.out; obtain ⟨z25_0, z25_1, z25_2, z25_3, j25_0, j25_1, j25_2, j25_3⟩ := Go.Proofs.YtldlnafakfigeaaDoor.Lv.blks4 BK32.out; obtain ⟨z26_0, z26_1, z26_2, z26_3, j26_0, j26_1, j26_2, j26_3⟩ := Go.Proofs.YtldlnafakfigeaaDoor.Lv.blks4 BK33.out))
  go_ret
  exact ⟨ze, zb⟩
 rw [if_neg c3] at H
 have c3b0 : (a0_0 == a1_0) = false := beq_eq_false_iff_ne.mpr c3
 have c3b1 : (a0_0 != a1_0) = true := bne_iff_ne.mpr c3
 obtain rfl := Option.some.inj H
 go_enter Tryd.func82, Tryd.ntmps82
 go_wp2_with (first | ((with_reducible refine gate_dst (N := 2) rfl ?_); refine zE 2 51 #[.int .i64 a0_0, .int .i64 a0_1, .bool a0_2, .int .i64 a0_3] ?_; intro gb32 hg w27 hbox hb; have BK32 := Aside0.mk hbox; have GW32 := Aside0.mk (zh hg : w.heap.size ≤ gb32); have GE32 := GW32; replace HB := Aside0.mk (below_step zb hb); clear hb hbox hg) | ((with_reducible refine gate_dst (N := 3) rfl ?_); refine zE 3 51 #[.int .i64 a1_0, .int .i64 a1_1, .bool a1_2, .int .i64 a1_3] ?_; intro gb33 hg w28 hbox hb; have BK33 := Aside0.mk hbox; have GW33 := Aside0.mk (zh hg : w.heap.size ≤ gb33); have NB295_296 := zl BK32 hg; have NB296_295 := zL BK32 hg; have GE33 := GW33; replace BK32 := zw BK32 hb; replace HB := Aside0.mk (below_step zb hb); clear hb hbox hg; have hnb29 := NB295_296.out; have hnc29 := NB296_295.out; obtain ⟨z30_0, z30_1, z30_2, z30_3, j30_0, j30_1, j30_2, j30_3⟩ := Go.Proofs.YtldlnafakfigeaaDoor.Lv.blks4 BK32.out; obtain ⟨z31_0, z31_1, z31_2, z31_3, j31_0, j31_1, j31_2, j31_3⟩ := Go.Proofs.YtldlnafakfigeaaDoor.Lv.blks4 BK33.out))
 go_ret
 exact ⟨ze, zb⟩
def laws_eqVersionS.T6 : Bool × List (List Nat × List Nat) := (true, [([], []), ([], []), ([0, 1], [0, 1]), ([2], [2]), ([], []), ([], []), ([4, 5], [4, 5]), ([6], [6]), ([3, 7], [3, 7]), ([8], [8])])
def laws_eqVersionS.B6 : List Nat := [0, 0, 3, 7, 0, 0, 48, 112, 255, 511]
theorem laws_eqVersionS.tab6 : rtab .any (opsOf Tryd.f68 6) = laws_eqVersionS.T6 := by kernel_rfl
theorem laws_eqVersionS.bits6 : waitsOk laws_eqVersionS.T6.2 laws_eqVersionS.B6 = true := by kernel_rfl
set_option maxHeartbeats 8000000 in
set_option maxRecDepth 100000 in
theorem laws_eqVersionS.calls (k : Nat) (A0 : Option Addr) (c0 : Nat) (l0 : List (S51)) (A1 : Option Addr) (c1 : Nat) (l1 : List (S51)) (r : Bool) (w : World) (hr0 : Kd.C k51 w A0 l0.length l0) (hc0 : l0.length ≤ c0) (hr1 : Kd.C k51 w A1 l1.length l1) (hc1 : l1.length ≤ c1) (h : laws_eqVersionS.f k l0 l1 = some r) :
 Calls Tryd.prog 68 #[.slice A0 l0.length c0, .slice A1 l1.length c1] w fun e w' => e = .returned (.bool r) ∧ Below w.heap.size w w' := by
 have hu51 := Tryd.underlying51
 have HR0 := Aside0.mk hr0
 have HC0 := Aside0.mk hc0
 clear hr0 hc0
 have HR1 := Aside0.mk hr1
 have HC1 := Aside0.mk hc1
 clear hr1 hc1
 have HB := Aside0.mk (Below.refl w.heap.size w)
 have H : (if (l0.length : Int) = (l1.length : Int) then (laws_eqVersionS.l0 k l0 l1 0) else (some false)) = some r := h
 clear h
 by_cases c3 : (l0.length : Int) = (l1.length : Int)
 ·rw [if_pos c3] at H
  have c3b0 : ((l0.length : Int) == (l1.length : Int)) = true := beq_iff_eq.mpr c3
  have c3b1 : ((l0.length : Int) != (l1.length : Int)) = false := bne_eq_false_iff_eq.mpr c3
  have c3b2 : (l0.length == l1.length) = true := by first | simpa using c3 | (simp at c3 ⊢; omega)
  clear c3
  have H' := Aside0.mk H
  clear H
  go_enter Tryd.func68, Tryd.ntmps68
  go_wp2
  go_loopg [5] k (fun kq v5 w' => ∃ (x5_1 : Int), v5 = .int .i64 x5_1 ∧ Aside0 (laws_eqVersionS.l0 kq l0 l1 x5_1 = some r) ∧ Aside0 (kq ≤ k) ∧ Aside0 (Below w.heap.size w w'))
  case atStart => exact ⟨(0), zs, H', ⟨Nat.le_refl _⟩, ⟨zb⟩⟩
  case round =>
   clear H'
   try clear c1
   try clear p2
   try clear c3
   try clear c3b0
   try clear c3b1
   try clear c3b2
   obtain ⟨x5_1, rfl, HA, HK1, HB⟩ := hrel
   cases gk with
   | zero => exact absurd HA.out (by simp [laws_eqVersionS.l0])
   | succ k1 =>
    have H := HA.out
    clear HA
    simp only [laws_eqVersionS.l0] at H
    by_cases c4 : x5_1 < (l0.length : Int)
    ·rw [if_pos c4] at H
     have c4b0 : decide (x5_1 < (l0.length : Int)) = true := decide_eq_true c4
     clear c4
     by_cases c5 : 0 ≤ x5_1
     ·rw [if_pos c5] at H
      have c5b0 : decide (0 ≤ x5_1) = true := decide_eq_true c5
      clear c5
      by_cases c6 : x5_1 < (l1.length : Int)
      ·rw [if_pos c6] at H
       have c6b0 : decide (x5_1 < (l1.length : Int)) = true := decide_eq_true c6
       clear c6
       replace H := Option.bind_eq_some_iff.mp H
       obtain ⟨t15, A70, H⟩ := H
       replace H : (if t15 = true then (laws_eqVersionS.l0 k1 l0 l1 (wrap64 (x5_1 + 1))) else (some false)) = some r := H
       have A7 := Aside0.mk A70
       clear A70
       by_cases c8 : t15 = true
       ·subst c8
        have H1 : (laws_eqVersionS.l0 k1 l0 l1 (wrap64 (x5_1 + 1))) = some r := by rw [if_pos rfl] at H; exact H
        clear H
        have H := H1
        clear H1
        have H' := Aside0.mk H
        clear H
        try go_wp2
        replace HB := Aside0.mk (below_drew1 HB.out)
        have p297 : 0 ≤ (x5_1 : Int) := of_decide_eq_true za
        have q13 : x5_1 < (l0.length : Int) := of_decide_eq_true za
        obtain ⟨ad13, e297, hx13_0, hx13_1, hx13_2, hx13_3⟩ := at_T51 HR0.out x5_1 p297 q13
        have hw13_3 := hx13_3
        have hw13_2 := hx13_2
        have hw13_1 := hx13_1
        have hw13_0 := hx13_0
        cases e297
        replace hx13_0 := zx HB hx13_0
        replace hx13_1 := zx HB hx13_1
        replace hx13_2 := zx HB hx13_2
        replace hx13_3 := zx HB hx13_3
        replace p297 := eq_true p297
        replace q13 := eq_true q13
        have p298 : 0 ≤ (x5_1 : Int) := of_decide_eq_true za
        have q14 : x5_1 < (l1.length : Int) := of_decide_eq_true za
        obtain ⟨ad14, e298, hx14_0, hx14_1, hx14_2, hx14_3⟩ := at_T51 HR1.out x5_1 p298 q14
        have hw14_3 := hx14_3
        have hw14_2 := hx14_2
        have hw14_1 := hx14_1
        have hw14_0 := hx14_0
        cases e298
        replace hx14_0 := zx HB hx14_0
        replace hx14_1 := zx HB hx14_1
        replace hx14_2 := zx HB hx14_2
        replace hx14_3 := zx HB hx14_3
        replace p298 := eq_true p298
        replace q14 := eq_true q14
        refine start_ (n := 10) (S := fun w' => w'.cell? (ad13.add ((x5_1).toNat * 4)) = some (.int .i64 ((rd_T51 l0 x5_1).f0)) ∧ w'.cell? ⟨(ad13.add ((x5_1).toNat * 4)).block, (ad13.add ((x5_1).toNat * 4)).off + 1, none⟩ = some (.int .i64 ((rd_T51 l0 x5_1).f1)) ∧ w'.cell? ⟨(ad13.add ((x5_1).toNat * 4)).block, (ad13.add ((x5_1).toNat * 4)).off + 2, none⟩ = some (.bool ((rd_T51 l0 x5_1).f2)) ∧ w'.cell? ⟨(ad13.add ((x5_1).toNat * 4)).block, (ad13.add ((x5_1).toNat * 4)).off + 3, none⟩ = some (.int .i64 ((rd_T51 l0 x5_1).f3)) ∧ w'.cell? (ad14.add ((x5_1).toNat * 4)) = some (.int .i64 ((rd_T51 l1 x5_1).f0)) ∧ w'.cell? ⟨(ad14.add ((x5_1).toNat * 4)).block, (ad14.add ((x5_1).toNat * 4)).off + 1, none⟩ = some (.int .i64 ((rd_T51 l1 x5_1).f1)) ∧ w'.cell? ⟨(ad14.add ((x5_1).toNat * 4)).block, (ad14.add ((x5_1).toNat * 4)).off + 2, none⟩ = some (.bool ((rd_T51 l1 x5_1).f2)) ∧ w'.cell? ⟨(ad14.add ((x5_1).toNat * 4)).block, (ad14.add ((x5_1).toNat * 4)).off + 3, none⟩ = some (.int .i64 ((rd_T51 l1 x5_1).f3))) (ds := []) #[Z, Z, Z, Z, Z, Z, Z, Z, Z, Z] (by kernel_rfl) rfl rfl ⟨((HB.out.cell (World.block_lt_of_cell? w _ hw13_0)).trans hw13_0), ((HB.out.cell (World.block_lt_of_cell? w _ hw13_1)).trans hw13_1), ((HB.out.cell (World.block_lt_of_cell? w _ hw13_2)).trans hw13_2), ((HB.out.cell (World.block_lt_of_cell? w _ hw13_3)).trans hw13_3), ((HB.out.cell (World.block_lt_of_cell? w _ hw14_0)).trans hw14_0), ((HB.out.cell (World.block_lt_of_cell? w _ hw14_1)).trans hw14_1), ((HB.out.cell (World.block_lt_of_cell? w _ hw14_2)).trans hw14_2), ((HB.out.cell (World.block_lt_of_cell? w _ hw14_3)).trans hw14_3)⟩ (fun hHeld => ?_); refine with_tabW laws_eqVersionS.tab6 laws_eqVersionS.bits6 (fun HT_ HW_ => ?_)
        generalize wr.drew = w9 at HB hx13_0 hx13_1 hx13_2 hx13_3 hx14_0 hx14_1 hx14_2 hx14_3 hHeld ⊢
        refine zp 0 17 ?_; refine zp 1 18 ?_; refine zp 2 19 ?_; refine zp 4 21 ?_; refine zp 5 22 ?_; refine zp 6 23 ?_; refine zt 3 20 ?_; refine zt 7 24 ?_
        refine one_ (i := 8) (N := some 25) #[Y, Y, Y, Y, Y, Y, Y, Y, Y, Z] rfl rfl (one_of HT_.out (by kernel_rfl)) (by decide) (fun K hK => ?_)
        refine goes_ Tryd.func82 (by kernel_rfl) rfl #[.agg #[.int .i64 ((rd_T51 l0 x5_1).f0), .int .i64 ((rd_T51 l0 x5_1).f1), .bool ((rd_T51 l0 x5_1).f2), .int .i64 ((rd_T51 l0 x5_1).f3)], .agg #[.int .i64 ((rd_T51 l1 x5_1).f0), .int .i64 ((rd_T51 l1 x5_1).f1), .bool ((rd_T51 l1 x5_1).f2), .int .i64 ((rd_T51 l1 x5_1).f3)]] (by rfl) rfl rfl zm ?_
        with_reducible refine (laws_eqVersion.calls ((rd_T51 l0 x5_1).f0) ((rd_T51 l0 x5_1).f1) ((rd_T51 l0 x5_1).f2) ((rd_T51 l0 x5_1).f3) ((rd_T51 l1 x5_1).f0) ((rd_T51 l1 x5_1).f1) ((rd_T51 l1 x5_1).f2) ((rd_T51 l1 x5_1).f3) true _ A7.out).mono ?_
        rintro e w10 ⟨rfl, hb⟩
        refine ⟨_, rfl, ?_⟩
        replace HB := Aside0.mk (below_step zb hb)
        (try clear hb)
        (try clear hb2)
        (try clear hk)
        (try clear hi)
        refine hK.out _ _ ⟨((HB.out.cell (World.block_lt_of_cell? w _ hw13_0)).trans hw13_0), ((HB.out.cell (World.block_lt_of_cell? w _ hw13_1)).trans hw13_1), ((HB.out.cell (World.block_lt_of_cell? w _ hw13_2)).trans hw13_2), ((HB.out.cell (World.block_lt_of_cell? w _ hw13_3)).trans hw13_3), ((HB.out.cell (World.block_lt_of_cell? w _ hw14_0)).trans hw14_0), ((HB.out.cell (World.block_lt_of_cell? w _ hw14_1)).trans hw14_1), ((HB.out.cell (World.block_lt_of_cell? w _ hw14_2)).trans hw14_2), ((HB.out.cell (World.block_lt_of_cell? w _ hw14_3)).trans hw14_3)⟩ (fun hHeld => ?_)
        clear hK K
        refine norm_ (a' := ?_) ?_ ?_
        rotate_left
        ·show Act.put _ (some 25) _ = _
         simp only [Act.put, List.setIfInBounds_toArray, List.set_cons_zero, List.set_cons_succ, i64_w, i32_w]
         rfl
        refine zp 9 26 ?_
        refine done_ (done_of HT_.out (by kernel_rfl)) ?_
        try go_wp2
        go_roundg k1
        case measure => have := HK1.out; omega
        case rel => exact ⟨(wrap64 (x5_1 + 1)), zs, H', ⟨by have := HK1.out; omega⟩, ⟨zb⟩⟩
       replace c8 := Bool.eq_false_iff.mpr c8
       subst c8
       have H1 : (some false) = some r := by rw [if_neg (show ¬ (false = true) by decide)] at H; exact H
       clear H
       have H := H1
       clear H1
       obtain rfl := Option.some.inj H
       try go_wp2
       replace HB := Aside0.mk (below_drew1 HB.out)
       have p297 : 0 ≤ (x5_1 : Int) := of_decide_eq_true za
       have q13 : x5_1 < (l0.length : Int) := of_decide_eq_true za
       obtain ⟨ad13, e297, hx13_0, hx13_1, hx13_2, hx13_3⟩ := at_T51 HR0.out x5_1 p297 q13
       have hw13_3 := hx13_3
       have hw13_2 := hx13_2
       have hw13_1 := hx13_1
       have hw13_0 := hx13_0
       cases e297
       replace hx13_0 := zx HB hx13_0
       replace hx13_1 := zx HB hx13_1
       replace hx13_2 := zx HB hx13_2
       replace hx13_3 := zx HB hx13_3
       replace p297 := eq_true p297
       replace q13 := eq_true q13
       have p298 : 0 ≤ (x5_1 : Int) := of_decide_eq_true za
       have q14 : x5_1 < (l1.length : Int) := of_decide_eq_true za
       obtain ⟨ad14, e298, hx14_0, hx14_1, hx14_2, hx14_3⟩ := at_T51 HR1.out x5_1 p298 q14
       have hw14_3 := hx14_3
       have hw14_2 := hx14_2
       have hw14_1 := hx14_1
       have hw14_0 := hx14_0
       cases e298
       replace hx14_0 := zx HB hx14_0
       replace hx14_1 := zx HB hx14_1
       replace hx14_2 := zx HB hx14_2
       replace hx14_3 := zx HB hx14_3
       replace p298 := eq_true p298
       replace q14 := eq_true q14
       refine start_ (n := 10) (S := fun w' => w'.cell? (ad13.add ((x5_1).toNat * 4)) = some (.int .i64 ((rd_T51 l0 x5_1).f0)) ∧ w'.cell? ⟨(ad13.add ((x5_1).toNat * 4)).block, (ad13.add ((x5_1).toNat * 4)).off + 1, none⟩ = some (.int .i64 ((rd_T51 l0 x5_1).f1)) ∧ w'.cell? ⟨(ad13.add ((x5_1).toNat * 4)).block, (ad13.add ((x5_1).toNat * 4)).off + 2, none⟩ = some (.bool ((rd_T51 l0 x5_1).f2)) ∧ w'.cell? ⟨(ad13.add ((x5_1).toNat * 4)).block, (ad13.add ((x5_1).toNat * 4)).off + 3, none⟩ = some (.int .i64 ((rd_T51 l0 x5_1).f3)) ∧ w'.cell? (ad14.add ((x5_1).toNat * 4)) = some (.int .i64 ((rd_T51 l1 x5_1).f0)) ∧ w'.cell? ⟨(ad14.add ((x5_1).toNat * 4)).block, (ad14.add ((x5_1).toNat * 4)).off + 1, none⟩ = some (.int .i64 ((rd_T51 l1 x5_1).f1)) ∧ w'.cell? ⟨(ad14.add ((x5_1).toNat * 4)).block, (ad14.add ((x5_1).toNat * 4)).off + 2, none⟩ = some (.bool ((rd_T51 l1 x5_1).f2)) ∧ w'.cell? ⟨(ad14.add ((x5_1).toNat * 4)).block, (ad14.add ((x5_1).toNat * 4)).off + 3, none⟩ = some (.int .i64 ((rd_T51 l1 x5_1).f3))) (ds := []) #[Z, Z, Z, Z, Z, Z, Z, Z, Z, Z] (by kernel_rfl) rfl rfl ⟨((HB.out.cell (World.block_lt_of_cell? w _ hw13_0)).trans hw13_0), ((HB.out.cell (World.block_lt_of_cell? w _ hw13_1)).trans hw13_1), ((HB.out.cell (World.block_lt_of_cell? w _ hw13_2)).trans hw13_2), ((HB.out.cell (World.block_lt_of_cell? w _ hw13_3)).trans hw13_3), ((HB.out.cell (World.block_lt_of_cell? w _ hw14_0)).trans hw14_0), ((HB.out.cell (World.block_lt_of_cell? w _ hw14_1)).trans hw14_1), ((HB.out.cell (World.block_lt_of_cell? w _ hw14_2)).trans hw14_2), ((HB.out.cell (World.block_lt_of_cell? w _ hw14_3)).trans hw14_3)⟩ (fun hHeld => ?_); refine with_tabW laws_eqVersionS.tab6 laws_eqVersionS.bits6 (fun HT_ HW_ => ?_)
       generalize wr.drew = w11 at HB hx13_0 hx13_1 hx13_2 hx13_3 hx14_0 hx14_1 hx14_2 hx14_3 hHeld ⊢
       refine zp 0 17 ?_; refine zp 1 18 ?_; refine zp 2 19 ?_; refine zp 4 21 ?_; refine zp 5 22 ?_; refine zp 6 23 ?_; refine zt 3 20 ?_; refine zt 7 24 ?_
       refine one_ (i := 8) (N := some 25) #[Y, Y, Y, Y, Y, Y, Y, Y, Y, Z] rfl rfl (one_of HT_.out (by kernel_rfl)) (by decide) (fun K hK => ?_)
       refine goes_ Tryd.func82 (by kernel_rfl) rfl #[.agg #[.int .i64 ((rd_T51 l0 x5_1).f0), .int .i64 ((rd_T51 l0 x5_1).f1), .bool ((rd_T51 l0 x5_1).f2), .int .i64 ((rd_T51 l0 x5_1).f3)], .agg #[.int .i64 ((rd_T51 l1 x5_1).f0), .int .i64 ((rd_T51 l1 x5_1).f1), .bool ((rd_T51 l1 x5_1).f2), .int .i64 ((rd_T51 l1 x5_1).f3)]] (by rfl) rfl rfl zm ?_
       with_reducible refine (laws_eqVersion.calls ((rd_T51 l0 x5_1).f0) ((rd_T51 l0 x5_1).f1) ((rd_T51 l0 x5_1).f2) ((rd_T51 l0 x5_1).f3) ((rd_T51 l1 x5_1).f0) ((rd_T51 l1 x5_1).f1) ((rd_T51 l1 x5_1).f2) ((rd_T51 l1 x5_1).f3) false _ A7.out).mono ?_
       rintro e w12 ⟨rfl, hb⟩
       refine ⟨_, rfl, ?_⟩
       replace HB := Aside0.mk (below_step zb hb)
       (try clear hb)
       (try clear hb2)
       (try clear hk)
       (try clear hi)
       refine hK.out _ _ ⟨((HB.out.cell (World.block_lt_of_cell? w _ hw13_0)).trans hw13_0), ((HB.out.cell (World.block_lt_of_cell? w _ hw13_1)).trans hw13_1), ((HB.out.cell (World.block_lt_of_cell? w _ hw13_2)).trans hw13_2), ((HB.out.cell (World.block_lt_of_cell? w _ hw13_3)).trans hw13_3), ((HB.out.cell (World.block_lt_of_cell? w _ hw14_0)).trans hw14_0), ((HB.out.cell (World.block_lt_of_cell? w _ hw14_1)).trans hw14_1), ((HB.out.cell (World.block_lt_of_cell? w _ hw14_2)).trans hw14_2), ((HB.out.cell (World.block_lt_of_cell? w _ hw14_3)).trans hw14_3)⟩ (fun hHeld => ?_)
       clear hK K
       refine norm_ (a' := ?_) ?_ ?_
       rotate_left
       ·show Act.put _ (some 25) _ = _
        simp only [Act.put, List.setIfInBounds_toArray, List.set_cons_zero, List.set_cons_succ, i64_w, i32_w]
        rfl
       refine zp 9 26 ?_
       refine done_ (done_of HT_.out (by kernel_rfl)) ?_
       try go_wp2
       go_ret
       exact ⟨ze, zb⟩
      rw [if_neg c6] at H
      exact absurd H (by simp)
     rw [if_neg c5] at H
     exact absurd H (by simp)
    rw [if_neg c4] at H
    have c4b0 : decide (x5_1 < (l0.length : Int)) = false := decide_eq_false c4
    clear c4
    obtain rfl := Option.some.inj H
    go_wp2
    go_ret
    exact ⟨ze, zb⟩
 rw [if_neg c3] at H
 have c3b0 : ((l0.length : Int) == (l1.length : Int)) = false := beq_eq_false_iff_ne.mpr c3
 have c3b1 : ((l0.length : Int) != (l1.length : Int)) = true := bne_iff_ne.mpr c3
 have c3b2 : (l0.length == l1.length) = false := by first | simpa using c3 | (simp at c3 ⊢; omega)
 obtain rfl := Option.some.inj H
 go_enter Tryd.func68, Tryd.ntmps68
 go_wp2
 go_ret
 exact ⟨ze, zb⟩
set_option maxHeartbeats 8000000 in
set_option maxRecDepth 100000 in
theorem laws_eqRow.calls (k : Nat) (a0_0 : Int) (A0_1 : Option Addr) (c0_1 : Nat) (l0_1 : List (S51)) (a1_0 : Int) (A1_1 : Option Addr) (c1_1 : Nat) (l1_1 : List (S51)) (r : Bool) (w : World) (hr0_1 : Kd.C k51 w A0_1 l0_1.length l0_1) (hc0_1 : l0_1.length ≤ c0_1) (hr1_1 : Kd.C k51 w A1_1 l1_1.length l1_1) (hc1_1 : l1_1.length ≤ c1_1) (h : laws_eqRow.f k a0_0 l0_1 a1_0 l1_1 = some r) :
 Calls Tryd.prog 48 #[.agg #[.int .i64 a0_0, .slice A0_1 l0_1.length c0_1], .agg #[.int .i64 a1_0, .slice A1_1 l1_1.length c1_1]] w fun e w' => e = .returned (.bool r) ∧ Below w.heap.size w w' := by
 have hu49 := Tryd.underlying49
 have HR0_1 := Aside0.mk hr0_1
 have HC0_1 := Aside0.mk hc0_1
 clear hr0_1 hc0_1
 have HR1_1 := Aside0.mk hr1_1
 have HC1_1 := Aside0.mk hc1_1
 clear hr1_1 hc1_1
 have HB := Aside0.mk (Below.refl w.heap.size w)
 have H : (if a0_0 = a1_0 then ((laws_eqVersionS.f k l0_1 l1_1).bind fun t25 => (if t25 = true then (some true) else (some false))) else (some false)) = some r := h
 clear h
 by_cases c3 : a0_0 = a1_0
 ·rw [if_pos c3] at H
  have c3b0 : (a0_0 == a1_0) = true := beq_iff_eq.mpr c3
  have c3b1 : (a0_0 != a1_0) = false := bne_eq_false_iff_eq.mpr c3
  clear c3
  replace H := Option.bind_eq_some_iff.mp H
  obtain ⟨t25, A40, H⟩ := H
  replace H : (if t25 = true then (some true) else (some false)) = some r := H
  have A4 := Aside0.mk A40
  clear A40
  by_cases c5 : t25 = true
  ·subst c5
   have H1 : (some true) = some r := by rw [if_pos rfl] at H; exact H
   clear H
   have H := H1
   clear H1
   obtain rfl := Option.some.inj H
   go_enter Tryd.func48, Tryd.ntmps48
   go_wp2_with (first | ((with_reducible refine gate_dst (N := 2) rfl ?_); refine zE 2 49 #[.int .i64 a0_0, .slice A0_1 l0_1.length c0_1] ?_; intro gb23 hg w6 hbox hb; have BK23 := Aside0.mk hbox; have GW23 := Aside0.mk (zh hg : w.heap.size ≤ gb23); have GE23 := GW23; replace HB := Aside0.mk (below_step zb hb); clear hb hbox hg) | ((with_reducible refine gate_dst (N := 3) rfl ?_); refine zE 3 49 #[.int .i64 a1_0, .slice A1_1 l1_1.length c1_1] ?_; intro gb24 hg w7 hbox hb; have BK24 := Aside0.mk hbox; have GW24 := Aside0.mk (zh hg : w.heap.size ≤ gb24); have NB300_301 := zl BK23 hg; have NB301_300 := zL BK23 hg; have GE24 := GW24; replace BK23 := zw BK23 hb; replace HB := Aside0.mk (below_step zb hb); clear hb hbox hg; have hnb8 := NB300_301.out; have hnc8 := NB301_300.out; obtain ⟨z9_0, z9_1, j9_0, j9_1⟩ := Go.Proofs.YtldlnafakfigeaaDoor.Lv.blks2 BK23.out; obtain ⟨z10_0, z10_1, j10_0, j10_1⟩ := Go.Proofs.YtldlnafakfigeaaDoor.Lv.blks2 BK24.out) | ((with_reducible refine gate_callee (f := 68) rfl ?_); refine zj 14 Tryd.func68 #[.slice A0_1 l0_1.length c0_1, .slice A1_1 l1_1.length c1_1] ?_; (with_reducible refine (laws_eqVersionS.calls k _ _ l0_1 _ _ l1_1 true _ ?side1 ?side2 ?side3 ?side4 A4.out).mono ?_); (case side1 => exact zc (Kd.C_below HR0_1.out HB.out)); (case side2 => exact HC0_1.out); (case side3 => exact zc (Kd.C_below HR1_1.out HB.out)); (case side4 => exact HC1_1.out); rintro e w11 ⟨rfl, hb⟩; refine ⟨_, rfl, ?_⟩; replace BK23 := zw BK23 hb; replace BK24 := zw BK24 hb; replace HB := Aside0.mk (below_step zb hb); (try clear hb); (try clear hb2); (try clear hk); (try clear hi)))
   go_ret
   exact ⟨ze, zb⟩
  replace c5 := Bool.eq_false_iff.mpr c5
  subst c5
  have H1 : (some false) = some r := by rw [if_neg (show ¬ (false = true) by decide)] at H; exact H
  clear H
  have H := H1
  clear H1
  obtain rfl := Option.some.inj H
  go_enter Tryd.func48, Tryd.ntmps48
  go_wp2_with (first | ((with_reducible refine gate_dst (N := 2) rfl ?_); refine zE 2 49 #[.int .i64 a0_0, .slice A0_1 l0_1.length c0_1] ?_; intro gb23 hg w12 hbox hb; have BK23 := Aside0.mk hbox; have GW23 := Aside0.mk (zh hg : w.heap.size ≤ gb23); have GE23 := GW23; replace HB := Aside0.mk (below_step zb hb); clear hb hbox hg) | ((with_reducible refine gate_dst (N := 3) rfl ?_); refine zE 3 49 #[.int .i64 a1_0, .slice A1_1 l1_1.length c1_1] ?_; intro gb24 hg w13 hbox hb; have BK24 := Aside0.mk hbox; have GW24 := Aside0.mk (zh hg : w.heap.size ≤ gb24); have NB300_301 := zl BK23 hg; have NB301_300 := zL BK23 hg; have GE24 := GW24; replace BK23 := zw BK23 hb; replace HB := Aside0.mk (below_step zb hb); clear hb hbox hg; have hnb14 := NB300_301.out; have hnc14 := NB301_300.out; obtain ⟨z15_0, z15_1, j15_0, j15_1⟩ := Go.Proofs.YtldlnafakfigeaaDoor.Lv.blks2 BK23.out; obtain ⟨z16_0, z16_1, j16_0, j16_1⟩ := Go.Proofs.YtldlnafakfigeaaDoor.Lv.blks2 BK24.out) | ((with_reducible refine gate_callee (f := 68) rfl ?_); refine zj 14 Tryd.func68 #[.slice A0_1 l0_1.length c0_1, .slice A1_1 l1_1.length c1_1] ?_; (with_reducible refine (laws_eqVersionS.calls k _ _ l0_1 _ _ l1_1 false _ ?side1 ?side2 ?side3 ?side4 A4.out).mono ?_); (case side1 => exact zc (Kd.C_below HR0_1.out HB.out)); (case side2 => exact HC0_1.out); (case side3 => exact zc (Kd.C_below HR1_1.out HB.out)); (case side4 => exact HC1_1.out); rintro e w17 ⟨rfl, hb⟩; refine ⟨_, rfl, ?_⟩; replace BK23 := zw BK23 hb; replace BK24 := zw BK24 hb; replace HB := Aside0.mk (below_step zb hb); (try clear hb); (try clear hb2); (try clear hk); (try clear hi)))
  go_ret
  exact ⟨ze, zb⟩
 rw [if_neg c3] at H
 have c3b0 : (a0_0 == a1_0) = false := beq_eq_false_iff_ne.mpr c3
 have c3b1 : (a0_0 != a1_0) = true := bne_iff_ne.mpr c3
 obtain rfl := Option.some.inj H
 go_enter Tryd.func48, Tryd.ntmps48
 go_wp2_with (first | ((with_reducible refine gate_dst (N := 2) rfl ?_); refine zE 2 49 #[.int .i64 a0_0, .slice A0_1 l0_1.length c0_1] ?_; intro gb23 hg w18 hbox hb; have BK23 := Aside0.mk hbox; have GW23 := Aside0.mk (zh hg : w.heap.size ≤ gb23); have GE23 := GW23; replace HB := Aside0.mk (below_step zb hb); clear hb hbox hg) | ((with_reducible refine gate_dst (N := 3) rfl ?_); refine zE 3 49 #[.int .i64 a1_0, .slice A1_1 l1_1.length c1_1] ?_; intro gb24 hg w19 hbox hb; have BK24 := Aside0.mk hbox; have GW24 := Aside0.mk (zh hg : w.heap.size ≤ gb24); have NB300_301 := zl BK23 hg; have NB301_300 := zL BK23 hg; have GE24 := GW24; replace BK23 := zw BK23 hb; replace HB := Aside0.mk (below_step zb hb); clear hb hbox hg; have hnb20 := NB300_301.out; have hnc20 := NB301_300.out; obtain ⟨z21_0, z21_1, j21_0, j21_1⟩ := Go.Proofs.YtldlnafakfigeaaDoor.Lv.blks2 BK23.out; obtain ⟨z22_0, z22_1, j22_0, j22_1⟩ := Go.Proofs.YtldlnafakfigeaaDoor.Lv.blks2 BK24.out))
 go_ret
 exact ⟨ze, zb⟩
end Go.Proofs.YtldlnafakfigeaaDoor.P
