import Derived.Test.YtocdahbinombkaaGreatZz
import Derived.Test.YtocdahbinombkaaGreatP0
import Derived.Test.YtocdahbinombkaaGreatPCall10
import Derived.Test.YtocdahbinombkaaGreatPDall0
import Derived.Test.YtocdahbinombkaaGreatWRepsOne
import Derived.Test.YtocdahbinombkaaGreatWTab
import Derived.Test.YtocdahbinombkaaGreatLv
namespace Go.Proofs.YtocdahbinombkaaGreat.P
open Go.RowKit Go.Proofs.YtocdahbinombkaaGreatW.PrintWords Go.Proofs.YtocdahbinombkaaGreatW.PrintLast Go.Proofs.YtocdahbinombkaaGreatW.PrintMore
attribute [local go_sem] max2_int min2_int max_two min_two max_three min_three max_four min_four   -- for this text's walks alone
set_option linter.unusedVariables false
set_option linter.unusedSimpArgs false
def laws_eqUndoS.T6 : Bool × List (List Nat × List Nat) := (true, [([], []), ([], []), ([0, 1], [0, 1]), ([2], [2]), ([], []), ([], []), ([4, 5], [4, 5]), ([6], [6]), ([3, 7], [3, 7]), ([8], [8])])
def laws_eqUndoS.B6 : List Nat := [0, 0, 3, 7, 0, 0, 48, 112, 255, 511]
theorem laws_eqUndoS.tab6 : rtab .any (opsOf Tryz.f97 6) = laws_eqUndoS.T6 := by kernel_rfl
theorem laws_eqUndoS.bits6 : waitsOk laws_eqUndoS.T6.2 laws_eqUndoS.B6 = true := by kernel_rfl
set_option maxHeartbeats 8000000 in
set_option maxRecDepth 100000 in
theorem laws_eqUndoS.calls (k : Nat) (A0 : Option Addr) (c0 : Nat) (l0 : List (S100)) (A1 : Option Addr) (c1 : Nat) (l1 : List (S100)) (r : Bool) (w : World) (hr0 : Kd.C k100 w A0 l0.length l0) (hc0 : l0.length ≤ c0) (hr1 : Kd.C k100 w A1 l1.length l1) (hc1 : l1.length ≤ c1) (h : laws_eqUndoS.f k l0 l1 = some r) :
 Calls Tryz.prog 97 #[.slice A0 l0.length c0, .slice A1 l1.length c1] w fun e w' => e = .returned (.bool r) ∧ Below w.heap.size w w' := by
 have hu100 := Tryz.underlying100
 have HR0 := Aside0.mk hr0
 have HC0 := Aside0.mk hc0
 clear hr0 hc0
 have HR1 := Aside0.mk hr1
 have HC1 := Aside0.mk hc1
 clear hr1 hc1
 have HB := Aside0.mk (Below.refl w.heap.size w)
 have H : (if (l0.length : Int) = (l1.length : Int) then (laws_eqUndoS.l0 k l0 l1 0) else (some false)) = some r := h
 clear h
 by_cases c3 : (l0.length : Int) = (l1.length : Int)
 ·rw [if_pos c3] at H
  have c3b0 : ((l0.length : Int) == (l1.length : Int)) = true := beq_iff_eq.mpr c3
  have c3b1 : ((l0.length : Int) != (l1.length : Int)) = false := bne_eq_false_iff_eq.mpr c3
  have c3b2 : (l0.length == l1.length) = true := by first | simpa using c3 | (simp at c3 ⊢; omega)
  clear c3
  have H' := Aside0.mk H
  clear H
  go_enter Tryz.func97, Tryz.ntmps97
  go_wp2
  go_loopg [5] k (fun kq v5 w' => ∃ (x5_1 : Int), v5 = .int .i64 x5_1 ∧ Aside0 (laws_eqUndoS.l0 kq l0 l1 x5_1 = some r) ∧ Aside0 (kq ≤ k) ∧ Aside0 (Below w.heap.size w w'))
  case atStart => exact ⟨(0), zs, H', ⟨Nat.le_refl _⟩, ⟨zb⟩⟩
  case round =>
   clear H'
   try clear c1
   try clear p2
   try clear c3
   try clear c3b0
   try clear c3b1
   try clear c3b2
   obtain ⟨x5_1, rfl, HA, HK1, HB⟩ := hrel
   cases gk with
   | zero => exact absurd HA.out (by simp [laws_eqUndoS.l0])
   | succ k1 =>
    have H := HA.out
    clear HA
    simp only [laws_eqUndoS.l0] at H
    by_cases c4 : x5_1 < (l0.length : Int)
    ·rw [if_pos c4] at H
     have c4b0 : decide (x5_1 < (l0.length : Int)) = true := decide_eq_true c4
     clear c4
     by_cases c5 : 0 ≤ x5_1
     ·rw [if_pos c5] at H
      have c5b0 : decide (0 ≤ x5_1) = true := decide_eq_true c5
      clear c5
      by_cases c6 : x5_1 < (l1.length : Int)
      ·rw [if_pos c6] at H
       have c6b0 : decide (x5_1 < (l1.length : Int)) = true := decide_eq_true c6
       clear c6
       replace H := Option.bind_eq_some_iff.mp H
       obtain ⟨t15, A70, H⟩ := H
       replace H : (if t15 = true then (laws_eqUndoS.l0 k1 l0 l1 (wrap64 (x5_1 + 1))) else (some false)) = some r := H
       have A7 := Aside0.mk A70
       clear A70
       by_cases c8 : t15 = true
       ·subst c8
        have H1 : (laws_eqUndoS.l0 k1 l0 l1 (wrap64 (x5_1 + 1))) = some r := by rw [if_pos rfl] at H; exact H
        clear H
        have H := H1
        clear H1
        have H' := Aside0.mk H
        clear H
        try go_wp2
        have n0_ := Aside0.mk (below_drew1 HB.out)
        clear HB
        have HB := n0_
        clear n0_
        have p330 : 0 ≤ (x5_1 : Int) := of_decide_eq_true za
        have q13 : x5_1 < (l0.length : Int) := of_decide_eq_true za
        obtain ⟨ad13, e330, hx13_0, hx13_1, hx13_2, hx13_3⟩ := at_T100 HR0.out x5_1 p330 q13
        have hw13_3 := hx13_3
        have hw13_2 := hx13_2
        have hw13_1 := hx13_1
        have hw13_0 := hx13_0
        cases e330
        replace hx13_0 := zx HB hx13_0
        replace hx13_1 := zx HB hx13_1
        replace hx13_2 := zx HB hx13_2
        replace hx13_3 := zx HB hx13_3
        replace p330 := eq_true p330
        replace q13 := eq_true q13
        have p331 : 0 ≤ (x5_1 : Int) := of_decide_eq_true za
        have q14 : x5_1 < (l1.length : Int) := of_decide_eq_true za
        obtain ⟨ad14, e331, hx14_0, hx14_1, hx14_2, hx14_3⟩ := at_T100 HR1.out x5_1 p331 q14
        have hw14_3 := hx14_3
        have hw14_2 := hx14_2
        have hw14_1 := hx14_1
        have hw14_0 := hx14_0
        cases e331
        replace hx14_0 := zx HB hx14_0
        replace hx14_1 := zx HB hx14_1
        replace hx14_2 := zx HB hx14_2
        replace hx14_3 := zx HB hx14_3
        replace p331 := eq_true p331
        replace q14 := eq_true q14
        refine start_ (n := 10) (S := fun w' => w'.cell? (ad13.add ((x5_1).toNat * 4)) = some (.int .i64 ((rd_T100 l0 x5_1).f0)) ∧ w'.cell? ⟨(ad13.add ((x5_1).toNat * 4)).block, (ad13.add ((x5_1).toNat * 4)).off + 1, none⟩ = some (.bool ((rd_T100 l0 x5_1).f1)) ∧ w'.cell? ⟨(ad13.add ((x5_1).toNat * 4)).block, (ad13.add ((x5_1).toNat * 4)).off + 2, none⟩ = some (.bool ((rd_T100 l0 x5_1).f2)) ∧ w'.cell? ⟨(ad13.add ((x5_1).toNat * 4)).block, (ad13.add ((x5_1).toNat * 4)).off + 3, none⟩ = some (.int .i64 ((rd_T100 l0 x5_1).f3)) ∧ w'.cell? (ad14.add ((x5_1).toNat * 4)) = some (.int .i64 ((rd_T100 l1 x5_1).f0)) ∧ w'.cell? ⟨(ad14.add ((x5_1).toNat * 4)).block, (ad14.add ((x5_1).toNat * 4)).off + 1, none⟩ = some (.bool ((rd_T100 l1 x5_1).f1)) ∧ w'.cell? ⟨(ad14.add ((x5_1).toNat * 4)).block, (ad14.add ((x5_1).toNat * 4)).off + 2, none⟩ = some (.bool ((rd_T100 l1 x5_1).f2)) ∧ w'.cell? ⟨(ad14.add ((x5_1).toNat * 4)).block, (ad14.add ((x5_1).toNat * 4)).off + 3, none⟩ = some (.int .i64 ((rd_T100 l1 x5_1).f3))) (ds := []) #[false, false, false, false, false, false, false, false, false, false] (by kernel_rfl) rfl rfl ⟨((HB.out.cell (World.block_lt_of_cell? w _ hw13_0)).trans hw13_0), ((HB.out.cell (World.block_lt_of_cell? w _ hw13_1)).trans hw13_1), ((HB.out.cell (World.block_lt_of_cell? w _ hw13_2)).trans hw13_2), ((HB.out.cell (World.block_lt_of_cell? w _ hw13_3)).trans hw13_3), ((HB.out.cell (World.block_lt_of_cell? w _ hw14_0)).trans hw14_0), ((HB.out.cell (World.block_lt_of_cell? w _ hw14_1)).trans hw14_1), ((HB.out.cell (World.block_lt_of_cell? w _ hw14_2)).trans hw14_2), ((HB.out.cell (World.block_lt_of_cell? w _ hw14_3)).trans hw14_3)⟩ (fun hHeld => ?_); refine with_tabW laws_eqUndoS.tab6 laws_eqUndoS.bits6 (fun HT_ HW_ => ?_)
        generalize wr.drew = w9 at HB hx13_0 hx13_1 hx13_2 hx13_3 hx14_0 hx14_1 hx14_2 hx14_3 hHeld ⊢
        refine zp 0 17 ?_; refine zp 1 18 ?_; refine zp 2 19 ?_; refine zp 4 21 ?_; refine zp 5 22 ?_; refine zp 6 23 ?_; refine zt 3 20 ?_; refine zt 7 24 ?_
        refine one_ (i := 8) (N := some 25) #[true, true, true, true, true, true, true, true, true, false] rfl rfl (one_of HT_.out (by kernel_rfl)) (by decide) (fun K hK => ?_)
        refine goes_ Tryz.func117 (by kernel_rfl) rfl #[.agg #[.int .i64 ((rd_T100 l0 x5_1).f0), .bool ((rd_T100 l0 x5_1).f1), .bool ((rd_T100 l0 x5_1).f2), .int .i64 ((rd_T100 l0 x5_1).f3)], .agg #[.int .i64 ((rd_T100 l1 x5_1).f0), .bool ((rd_T100 l1 x5_1).f1), .bool ((rd_T100 l1 x5_1).f2), .int .i64 ((rd_T100 l1 x5_1).f3)]] (by rfl) rfl rfl zm ?_
        with_reducible refine (laws_eqUndo.calls ((rd_T100 l0 x5_1).f0) ((rd_T100 l0 x5_1).f1) ((rd_T100 l0 x5_1).f2) ((rd_T100 l0 x5_1).f3) ((rd_T100 l1 x5_1).f0) ((rd_T100 l1 x5_1).f1) ((rd_T100 l1 x5_1).f2) ((rd_T100 l1 x5_1).f3) true _ A7.out).mono ?_
        rintro e w10 ⟨rfl, hb⟩
        refine ⟨_, rfl, ?_⟩
        have n0_ := Aside0.mk (below_step zb hb)
        clear HB
        have HB := n0_
        clear n0_
        (try clear hb)
        (try clear hb2)
        (try clear hk)
        (try clear hi)
        refine hK.out _ _ ⟨((HB.out.cell (World.block_lt_of_cell? w _ hw13_0)).trans hw13_0), ((HB.out.cell (World.block_lt_of_cell? w _ hw13_1)).trans hw13_1), ((HB.out.cell (World.block_lt_of_cell? w _ hw13_2)).trans hw13_2), ((HB.out.cell (World.block_lt_of_cell? w _ hw13_3)).trans hw13_3), ((HB.out.cell (World.block_lt_of_cell? w _ hw14_0)).trans hw14_0), ((HB.out.cell (World.block_lt_of_cell? w _ hw14_1)).trans hw14_1), ((HB.out.cell (World.block_lt_of_cell? w _ hw14_2)).trans hw14_2), ((HB.out.cell (World.block_lt_of_cell? w _ hw14_3)).trans hw14_3)⟩ (fun hHeld => ?_)
        clear hK K
        refine norm_ (a' := ?_) ?_ ?_
        rotate_left
        ·show Act.put _ (some 25) _ = _
         simp only [Act.put, List.setIfInBounds_toArray, List.set_cons_zero, List.set_cons_succ, i64_w, i32_w]
         rfl
        refine zp 9 26 ?_
        refine done_ (done_of HT_.out (by kernel_rfl)) ?_
        try go_wp2
        go_roundg k1
        case measure => have := HK1.out; omega
        case rel => exact ⟨(wrap64 (x5_1 + 1)), zs, H', ⟨by have := HK1.out; omega⟩, ⟨zb⟩⟩
       replace c8 := Bool.eq_false_iff.mpr c8
       subst c8
       have H1 : (some false) = some r := by rw [if_neg (show ¬ (false = true) by decide)] at H; exact H
       clear H
       have H := H1
       clear H1
       obtain rfl := Option.some.inj H
       try go_wp2
       have n0_ := Aside0.mk (below_drew1 HB.out)
       clear HB
       have HB := n0_
       clear n0_
       have p330 : 0 ≤ (x5_1 : Int) := of_decide_eq_true za
       have q13 : x5_1 < (l0.length : Int) := of_decide_eq_true za
       obtain ⟨ad13, e330, hx13_0, hx13_1, hx13_2, hx13_3⟩ := at_T100 HR0.out x5_1 p330 q13
       have hw13_3 := hx13_3
       have hw13_2 := hx13_2
       have hw13_1 := hx13_1
       have hw13_0 := hx13_0
       cases e330
       replace hx13_0 := zx HB hx13_0
       replace hx13_1 := zx HB hx13_1
       replace hx13_2 := zx HB hx13_2
       replace hx13_3 := zx HB hx13_3
       replace p330 := eq_true p330
       replace q13 := eq_true q13
       have p331 : 0 ≤ (x5_1 : Int) := of_decide_eq_true za
       have q14 : x5_1 < (l1.length : Int) := of_decide_eq_true za
       obtain ⟨ad14, e331, hx14_0, hx14_1, hx14_2, hx14_3⟩ := at_T100 HR1.out x5_1 p331 q14
       have hw14_3 := hx14_3
       have hw14_2 := hx14_2
       have hw14_1 := hx14_1
       have hw14_0 := hx14_0
       cases e331
       replace hx14_0 := zx HB hx14_0
       replace hx14_1 := zx HB hx14_1
       replace hx14_2 := zx HB hx14_2
       replace hx14_3 := zx HB hx14_3
       replace p331 := eq_true p331
       replace q14 := eq_true q14
       refine start_ (n := 10) (S := fun w' => w'.cell? (ad13.add ((x5_1).toNat * 4)) = some (.int .i64 ((rd_T100 l0 x5_1).f0)) ∧ w'.cell? ⟨(ad13.add ((x5_1).toNat * 4)).block, (ad13.add ((x5_1).toNat * 4)).off + 1, none⟩ = some (.bool ((rd_T100 l0 x5_1).f1)) ∧ w'.cell? ⟨(ad13.add ((x5_1).toNat * 4)).block, (ad13.add ((x5_1).toNat * 4)).off + 2, none⟩ = some (.bool ((rd_T100 l0 x5_1).f2)) ∧ w'.cell? ⟨(ad13.add ((x5_1).toNat * 4)).block, (ad13.add ((x5_1).toNat * 4)).off + 3, none⟩ = some (.int .i64 ((rd_T100 l0 x5_1).f3)) ∧ w'.cell? (ad14.add ((x5_1).toNat * 4)) = some (.int .i64 ((rd_T100 l1 x5_1).f0)) ∧ w'.cell? ⟨(ad14.add ((x5_1).toNat * 4)).block, (ad14.add ((x5_1).toNat * 4)).off + 1, none⟩ = some (.bool ((rd_T100 l1 x5_1).f1)) ∧ w'.cell? ⟨(ad14.add ((x5_1).toNat * 4)).block, (ad14.add ((x5_1).toNat * 4)).off + 2, none⟩ = some (.bool ((rd_T100 l1 x5_1).f2)) ∧ w'.cell? ⟨(ad14.add ((x5_1).toNat * 4)).block, (ad14.add ((x5_1).toNat * 4)).off + 3, none⟩ = some (.int .i64 ((rd_T100 l1 x5_1).f3))) (ds := []) #[false, false, false, false, false, false, false, false, false, false] (by kernel_rfl) rfl rfl ⟨((HB.out.cell (World.block_lt_of_cell? w _ hw13_0)).trans hw13_0), ((HB.out.cell (World.block_lt_of_cell? w _ hw13_1)).trans hw13_1), ((HB.out.cell (World.block_lt_of_cell? w _ hw13_2)).trans hw13_2), ((HB.out.cell (World.block_lt_of_cell? w _ hw13_3)).trans hw13_3), ((HB.out.cell (World.block_lt_of_cell? w _ hw14_0)).trans hw14_0), ((HB.out.cell (World.block_lt_of_cell? w _ hw14_1)).trans hw14_1), ((HB.out.cell (World.block_lt_of_cell? w _ hw14_2)).trans hw14_2), ((HB.out.cell (World.block_lt_of_cell? w _ hw14_3)).trans hw14_3)⟩ (fun hHeld => ?_); refine with_tabW laws_eqUndoS.tab6 laws_eqUndoS.bits6 (fun HT_ HW_ => ?_)
       generalize wr.drew = w11 at HB hx13_0 hx13_1 hx13_2 hx13_3 hx14_0 hx14_1 hx14_2 hx14_3 hHeld ⊢
       refine zp 0 17 ?_; refine zp 1 18 ?_; refine zp 2 19 ?_; refine zp 4 21 ?_; refine zp 5 22 ?_; refine zp 6 23 ?_; refine zt 3 20 ?_; refine zt 7 24 ?_
       refine one_ (i := 8) (N := some 25) #[true, true, true, true, true, true, true, true, true, false] rfl rfl (one_of HT_.out (by kernel_rfl)) (by decide) (fun K hK => ?_)
       refine goes_ Tryz.func117 (by kernel_rfl) rfl #[.agg #[.int .i64 ((rd_T100 l0 x5_1).f0), .bool ((rd_T100 l0 x5_1).f1), .bool ((rd_T100 l0 x5_1).f2), .int .i64 ((rd_T100 l0 x5_1).f3)], .agg #[.int .i64 ((rd_T100 l1 x5_1).f0), .bool ((rd_T100 l1 x5_1).f1), .bool ((rd_T100 l1 x5_1).f2), .int .i64 ((rd_T100 l1 x5_1).f3)]] (by rfl) rfl rfl zm ?_
       with_reducible refine (laws_eqUndo.calls ((rd_T100 l0 x5_1).f0) ((rd_T100 l0 x5_1).f1) ((rd_T100 l0 x5_1).f2) ((rd_T100 l0 x5_1).f3) ((rd_T100 l1 x5_1).f0) ((rd_T100 l1 x5_1).f1) ((rd_T100 l1 x5_1).f2) ((rd_T100 l1 x5_1).f3) false _ A7.out).mono ?_
       rintro e w12 ⟨rfl, hb⟩
       refine ⟨_, rfl, ?_⟩
       have n0_ := Aside0.mk (below_step zb hb)
       clear HB
       have HB := n0_
       clear n0_
       (try clear hb)
       (try clear hb2)
       (try clear hk)
       (try clear hi)
       refine hK.out _ _ ⟨((HB.out.cell (World.block_lt_of_cell? w _ hw13_0)).trans hw13_0), ((HB.out.cell (World.block_lt_of_cell? w _ hw13_1)).trans hw13_1), ((HB.out.cell (World.block_lt_of_cell? w _ hw13_2)).trans hw13_2), ((HB.out.cell (World.block_lt_of_cell? w _ hw13_3)).trans hw13_3), ((HB.out.cell (World.block_lt_of_cell? w _ hw14_0)).trans hw14_0), ((HB.out.cell (World.block_lt_of_cell? w _ hw14_1)).trans hw14_1), ((HB.out.cell (World.block_lt_of_cell? w _ hw14_2)).trans hw14_2), ((HB.out.cell (World.block_lt_of_cell? w _ hw14_3)).trans hw14_3)⟩ (fun hHeld => ?_)
       clear hK K
       refine norm_ (a' := ?_) ?_ ?_
       rotate_left
       ·show Act.put _ (some 25) _ = _
        simp only [Act.put, List.setIfInBounds_toArray, List.set_cons_zero, List.set_cons_succ, i64_w, i32_w]
        rfl
       refine zp 9 26 ?_
       refine done_ (done_of HT_.out (by kernel_rfl)) ?_
       try go_wp2
       go_ret
       exact ⟨ze, zb⟩
      rw [if_neg c6] at H
      exact absurd H (by simp)
     rw [if_neg c5] at H
     exact absurd H (by simp)
    rw [if_neg c4] at H
    have c4b0 : decide (x5_1 < (l0.length : Int)) = false := decide_eq_false c4
    clear c4
    obtain rfl := Option.some.inj H
    go_wp2
    go_ret
    exact ⟨ze, zb⟩
 rw [if_neg c3] at H
 have c3b0 : ((l0.length : Int) == (l1.length : Int)) = false := beq_eq_false_iff_ne.mpr c3
 have c3b1 : ((l0.length : Int) != (l1.length : Int)) = true := bne_iff_ne.mpr c3
 have c3b2 : (l0.length == l1.length) = false := by first | simpa using c3 | (simp at c3 ⊢; omega)
 obtain rfl := Option.some.inj H
 go_enter Tryz.func97, Tryz.ntmps97
 go_wp2
 go_ret
 exact ⟨ze, zb⟩
set_option maxHeartbeats 8000000 in
set_option maxRecDepth 100000 in
theorem laws_eqTxn.calls (k : Nat) (a0_0 : Int) (a0_1 : Int) (a0_2 : Int) (a0_3 : Int) (A0_4 : Option Addr) (c0_4 : Nat) (l0_4 : List (S100)) (a1_0 : Int) (a1_1 : Int) (a1_2 : Int) (a1_3 : Int) (A1_4 : Option Addr) (c1_4 : Nat) (l1_4 : List (S100)) (r : Bool) (w : World) (hr0_4 : Kd.C k100 w A0_4 l0_4.length l0_4) (hc0_4 : l0_4.length ≤ c0_4) (hr1_4 : Kd.C k100 w A1_4 l1_4.length l1_4) (hc1_4 : l1_4.length ≤ c1_4) (h : laws_eqTxn.f k a0_0 a0_1 a0_2 a0_3 l0_4 a1_0 a1_1 a1_2 a1_3 l1_4 = some r) :
 Calls Tryz.prog 75 #[.agg #[.int .i64 a0_0, .int .i64 a0_1, .int .i64 a0_2, .int .i64 a0_3, .slice A0_4 l0_4.length c0_4], .agg #[.int .i64 a1_0, .int .i64 a1_1, .int .i64 a1_2, .int .i64 a1_3, .slice A1_4 l1_4.length c1_4]] w fun e w' => e = .returned (.bool r) ∧ Below w.heap.size w w' := by
 have hu84 := Tryz.underlying84
 have HR0_4 := Aside0.mk hr0_4
 have HC0_4 := Aside0.mk hc0_4
 clear hr0_4 hc0_4
 have HR1_4 := Aside0.mk hr1_4
 have HC1_4 := Aside0.mk hc1_4
 clear hr1_4 hc1_4
 have HB := Aside0.mk (Below.refl w.heap.size w)
 have H : (if a0_0 = a1_0 then (if a0_1 = a1_1 then (if a0_2 = a1_2 then (if a0_3 = a1_3 then ((laws_eqUndoS.f k l0_4 l1_4).bind fun t43 => (if t43 = true then (some true) else (some false))) else (some false)) else (some false)) else (some false)) else (some false)) = some r := h
 clear h
 by_cases c3 : a0_0 = a1_0
 ·rw [if_pos c3] at H
  have c3b0 : (a0_0 == a1_0) = true := beq_iff_eq.mpr c3
  have c3b1 : (a0_0 != a1_0) = false := bne_eq_false_iff_eq.mpr c3
  clear c3
  by_cases c4 : a0_1 = a1_1
  ·rw [if_pos c4] at H
   have c4b0 : (a0_1 == a1_1) = true := beq_iff_eq.mpr c4
   have c4b1 : (a0_1 != a1_1) = false := bne_eq_false_iff_eq.mpr c4
   clear c4
   by_cases c5 : a0_2 = a1_2
   ·rw [if_pos c5] at H
    have c5b0 : (a0_2 == a1_2) = true := beq_iff_eq.mpr c5
    have c5b1 : (a0_2 != a1_2) = false := bne_eq_false_iff_eq.mpr c5
    clear c5
    by_cases c6 : a0_3 = a1_3
    ·rw [if_pos c6] at H
     have c6b0 : (a0_3 == a1_3) = true := beq_iff_eq.mpr c6
     have c6b1 : (a0_3 != a1_3) = false := bne_eq_false_iff_eq.mpr c6
     clear c6
     replace H := Option.bind_eq_some_iff.mp H
     obtain ⟨t43, A70, H⟩ := H
     replace H : (if t43 = true then (some true) else (some false)) = some r := H
     have A7 := Aside0.mk A70
     clear A70
     by_cases c8 : t43 = true
     ·subst c8
      have H1 : (some true) = some r := by rw [if_pos rfl] at H; exact H
      clear H
      have H := H1
      clear H1
      obtain rfl := Option.some.inj H
      go_enter Tryz.func75, Tryz.ntmps75
      go_wp2_with (first | ((with_reducible refine gate_dst (N := 2) rfl ?_); refine box_event ?hg (N := 2) ?hd (cs := #[.int .i64 a0_0, .int .i64 a0_1, .int .i64 a0_2, .int .i64 a0_3, .slice A0_4 l0_4.length c0_4]) (t := 84) ?hr ?_; (case hd => rfl); (case hg => rfl); (case hr => first | (go_simp; done) | (go_simp; rfl)); intro gb41 hg w9 hbox hb; have n0_ := Aside0.mk (below_step zb hb); have n1_ := Aside0.mk (hbox); have n2_ := Aside0.mk ((by rw [hg]; exact (below_size zb) : w.heap.size ≤ gb41)); have n3_ := n2_; clear HB; have HB := n0_; have BK41 := n1_; have GW41 := n2_; have GE41 := n3_; clear n0_ n1_ n2_ n3_; clear hb hbox hg) | ((with_reducible refine gate_dst (N := 3) rfl ?_); refine box_event ?hg (N := 3) ?hd (cs := #[.int .i64 a1_0, .int .i64 a1_1, .int .i64 a1_2, .int .i64 a1_3, .slice A1_4 l1_4.length c1_4]) (t := 84) ?hr ?_; (case hd => rfl); (case hg => rfl); (case hr => first | (go_simp; done) | (go_simp; rfl)); intro gb42 hg w10 hbox hb; have n0_ := Aside0.mk (blk_below (g := gb41) (o := .cells #[.int .i64 a0_0, .int .i64 a0_1, .int .i64 a0_2, .int .i64 a0_3, .slice A0_4 l0_4.length c0_4] 84 (0, 0)) zk hb); have n1_ := Aside0.mk (below_step zb hb); have n2_ := Aside0.mk (hbox); have n3_ := Aside0.mk ((by rw [hg]; exact (below_size zb) : w.heap.size ≤ gb42)); have n4_ := n3_; have n5_ := Aside0.mk ((by rw [hg]; exact Nat.ne_of_lt (blk_lt (g := gb41) (o := .cells #[.int .i64 a0_0, .int .i64 a0_1, .int .i64 a0_2, .int .i64 a0_3, .slice A0_4 l0_4.length c0_4] 84 (0, 0)) zk) : gb41 ≠ gb42)); have n6_ := Aside0.mk ((by rw [hg]; exact Nat.ne_of_gt (blk_lt (g := gb41) (o := .cells #[.int .i64 a0_0, .int .i64 a0_1, .int .i64 a0_2, .int .i64 a0_3, .slice A0_4 l0_4.length c0_4] 84 (0, 0)) zk) : gb42 ≠ gb41)); clear BK41; clear HB; have BK41 := n0_; have HB := n1_; have BK42 := n2_; have GW42 := n3_; have GE42 := n4_; have NB333_334 := n5_; have NB334_333 := n6_; clear n0_ n1_ n2_ n3_ n4_ n5_ n6_; clear hb hbox hg; have hnb11 := NB333_334.out; have hnc11 := NB334_333.out; obtain ⟨hcz12_0, hcz12_1, hcz12_2, hcz12_3, hcz12_4, hfz12_0, hfz12_1, hfz12_2, hfz12_3, hfz12_4⟩ := Go.Proofs.YtocdahbinombkaaGreat.Lv.blks5 BK41.out; obtain ⟨hcz13_0, hcz13_1, hcz13_2, hcz13_3, hcz13_4, hfz13_0, hfz13_1, hfz13_2, hfz13_3, hfz13_4⟩ := Go.Proofs.YtocdahbinombkaaGreat.Lv.blks5 BK42.out) | ((with_reducible refine gate_callee (f := 97) rfl ?_); refine goesL_ (some 29) rfl rfl Tryz.func97 (by kernel_rfl) rfl #[.slice A0_4 l0_4.length c0_4, .slice A1_4 l1_4.length c1_4] rfl zm ?_; (with_reducible refine (laws_eqUndoS.calls k _ _ l0_4 _ _ l1_4 true _ ?side1 ?side2 ?side3 ?side4 A7.out).mono ?_); (case side1 => repeat (first | exact (Kd.C_below HR0_4.out HB.out) | (with_reducible first | refine Kd.C_alloc ?_ _ | refine Kd.C_drewN ?_ _ | refine Kd.C_drew ?_))); (case side2 => exact HC0_4.out); (case side3 => repeat (first | exact (Kd.C_below HR1_4.out HB.out) | (with_reducible first | refine Kd.C_alloc ?_ _ | refine Kd.C_drewN ?_ _ | refine Kd.C_drew ?_))); (case side4 => exact HC1_4.out); rintro e w14 ⟨rfl, hb⟩; refine ⟨_, rfl, ?_⟩; have n0_ := Aside0.mk (blk_below (g := gb41) (o := .cells #[.int .i64 a0_0, .int .i64 a0_1, .int .i64 a0_2, .int .i64 a0_3, .slice A0_4 l0_4.length c0_4] 84 (0, 0)) zk hb); have n1_ := Aside0.mk (blk_below (g := gb42) (o := .cells #[.int .i64 a1_0, .int .i64 a1_1, .int .i64 a1_2, .int .i64 a1_3, .slice A1_4 l1_4.length c1_4] 84 (0, 0)) zk hb); have n2_ := Aside0.mk (below_step zb hb); clear BK41; clear BK42; clear HB; have BK41 := n0_; have BK42 := n1_; have HB := n2_; clear n0_ n1_ n2_; (try clear hb); (try clear hb2); (try clear hk); (try clear hi)))
      go_ret
      exact ⟨ze, zb⟩
     replace c8 := Bool.eq_false_iff.mpr c8
     subst c8
     have H1 : (some false) = some r := by rw [if_neg (show ¬ (false = true) by decide)] at H; exact H
     clear H
     have H := H1
     clear H1
     obtain rfl := Option.some.inj H
     go_enter Tryz.func75, Tryz.ntmps75
     go_wp2_with (first | ((with_reducible refine gate_dst (N := 2) rfl ?_); refine box_event ?hg (N := 2) ?hd (cs := #[.int .i64 a0_0, .int .i64 a0_1, .int .i64 a0_2, .int .i64 a0_3, .slice A0_4 l0_4.length c0_4]) (t := 84) ?hr ?_; (case hd => rfl); (case hg => rfl); (case hr => first | (go_simp; done) | (go_simp; rfl)); intro gb41 hg w15 hbox hb; have n0_ := Aside0.mk (below_step zb hb); have n1_ := Aside0.mk (hbox); have n2_ := Aside0.mk ((by rw [hg]; exact (below_size zb) : w.heap.size ≤ gb41)); have n3_ := n2_; clear HB; have HB := n0_; have BK41 := n1_; have GW41 := n2_; have GE41 := n3_; clear n0_ n1_ n2_ n3_; clear hb hbox hg) | ((with_reducible refine gate_dst (N := 3) rfl ?_); refine box_event ?hg (N := 3) ?hd (cs := #[.int .i64 a1_0, .int .i64 a1_1, .int .i64 a1_2, .int .i64 a1_3, .slice A1_4 l1_4.length c1_4]) (t := 84) ?hr ?_; (case hd => rfl); (case hg => rfl); (case hr => first | (go_simp; done) | (go_simp; rfl)); intro gb42 hg w16 hbox hb; have n0_ := Aside0.mk (blk_below (g := gb41) (o := .cells #[.int .i64 a0_0, .int .i64 a0_1, .int .i64 a0_2, .int .i64 a0_3, .slice A0_4 l0_4.length c0_4] 84 (0, 0)) zk hb); have n1_ := Aside0.mk (below_step zb hb); have n2_ := Aside0.mk (hbox); have n3_ := Aside0.mk ((by rw [hg]; exact (below_size zb) : w.heap.size ≤ gb42)); have n4_ := n3_; have n5_ := Aside0.mk ((by rw [hg]; exact Nat.ne_of_lt (blk_lt (g := gb41) (o := .cells #[.int .i64 a0_0, .int .i64 a0_1, .int .i64 a0_2, .int .i64 a0_3, .slice A0_4 l0_4.length c0_4] 84 (0, 0)) zk) : gb41 ≠ gb42)); have n6_ := Aside0.mk ((by rw [hg]; exact Nat.ne_of_gt (blk_lt (g := gb41) (o := .cells #[.int .i64 a0_0, .int .i64 a0_1, .int .i64 a0_2, .int .i64 a0_3, .slice A0_4 l0_4.length c0_4] 84 (0, 0)) zk) : gb42 ≠ gb41)); clear BK41; clear HB; have BK41 := n0_; have HB := n1_; have BK42 := n2_; have GW42 := n3_; have GE42 := n4_; have NB333_334 := n5_; have NB334_333 := n6_; clear n0_ n1_ n2_ n3_ n4_ n5_ n6_; clear hb hbox hg; have hnb17 := NB333_334.out; have hnc17 := NB334_333.out; obtain ⟨hcz18_0, hcz18_1, hcz18_2, hcz18_3, hcz18_4, hfz18_0, hfz18_1, hfz18_2, hfz18_3, hfz18_4⟩ := Go.Proofs.YtocdahbinombkaaGreat.Lv.blks5 BK41.out; obtain ⟨hcz19_0, hcz19_1, hcz19_2, hcz19_3, hcz19_4, hfz19_0, hfz19_1, hfz19_2, hfz19_3, hfz19_4⟩ := Go.Proofs.YtocdahbinombkaaGreat.Lv.blks5 BK42.out) | ((with_reducible refine gate_callee (f := 97) rfl ?_); refine goesL_ (some 29) rfl rfl Tryz.func97 (by kernel_rfl) rfl #[.slice A0_4 l0_4.length c0_4, .slice A1_4 l1_4.length c1_4] rfl zm ?_; (with_reducible refine (laws_eqUndoS.calls k _ _ l0_4 _ _ l1_4 false _ ?side1 ?side2 ?side3 ?side4 A7.out).mono ?_); (case side1 => repeat (first | exact (Kd.C_below HR0_4.out HB.out) | (with_reducible first | refine Kd.C_alloc ?_ _ | refine Kd.C_drewN ?_ _ | refine Kd.C_drew ?_))); (case side2 => exact HC0_4.out); (case side3 => repeat (first | exact (Kd.C_below HR1_4.out HB.out) | (with_reducible first | refine Kd.C_alloc ?_ _ | refine Kd.C_drewN ?_ _ | refine Kd.C_drew ?_))); (case side4 => exact HC1_4.out); rintro e w20 ⟨rfl, hb⟩; refine ⟨_, rfl, ?_⟩; have n0_ := Aside0.mk (blk_below (g := gb41) (o := .cells #[.int .i64 a0_0, .int .i64 a0_1, .int .i64 a0_2, .int .i64 a0_3, .slice A0_4 l0_4.length c0_4] 84 (0, 0)) zk hb); have n1_ := Aside0.mk (blk_below (g := gb42) (o := .cells #[.int .i64 a1_0, .int .i64 a1_1, .int .i64 a1_2, .int .i64 a1_3, .slice A1_4 l1_4.length c1_4] 84 (0, 0)) zk hb); have n2_ := Aside0.mk (below_step zb hb); clear BK41; clear BK42; clear HB; have BK41 := n0_; have BK42 := n1_; have HB := n2_; clear n0_ n1_ n2_; (try clear hb); (try clear hb2); (try clear hk); (try clear hi)))
     go_ret
     exact ⟨ze, zb⟩
    rw [if_neg c6] at H
    have c6b0 : (a0_3 == a1_3) = false := beq_eq_false_iff_ne.mpr c6
    have c6b1 : (a0_3 != a1_3) = true := bne_iff_ne.mpr c6
    obtain rfl := Option.some.inj H
    go_enter Tryz.func75, Tryz.ntmps75
    go_wp2_with (first | ((with_reducible refine gate_dst (N := 2) rfl ?_); refine box_event ?hg (N := 2) ?hd (cs := #[.int .i64 a0_0, .int .i64 a0_1, .int .i64 a0_2, .int .i64 a0_3, .slice A0_4 l0_4.length c0_4]) (t := 84) ?hr ?_; (case hd => rfl); (case hg => rfl); (case hr => first | (go_simp; done) | (go_simp; rfl)); intro gb41 hg w21 hbox hb; have n0_ := Aside0.mk (below_step zb hb); have n1_ := Aside0.mk (hbox); have n2_ := Aside0.mk ((by rw [hg]; exact (below_size zb) : w.heap.size ≤ gb41)); have n3_ := n2_; clear HB; have HB := n0_; have BK41 := n1_; have GW41 := n2_; have GE41 := n3_; clear n0_ n1_ n2_ n3_; clear hb hbox hg) | ((with_reducible refine gate_dst (N := 3) rfl ?_); refine box_event ?hg (N := 3) ?hd (cs := #[.int .i64 a1_0, .int .i64 a1_1, .int .i64 a1_2, .int .i64 a1_3, .slice A1_4 l1_4.length c1_4]) (t := 84) ?hr ?_; (case hd => rfl); (case hg => rfl); (case hr => first | (go_simp; done) | (go_simp; rfl)); intro gb42 hg w22 hbox hb; have n0_ := Aside0.mk (blk_below (g := gb41) (o := .cells #[.int .i64 a0_0, .int .i64 a0_1, .int .i64 a0_2, .int .i64 a0_3, .slice A0_4 l0_4.length c0_4] 84 (0, 0)) zk hb); have n1_ := Aside0.mk (below_step zb hb); have n2_ := Aside0.mk (hbox); have n3_ := Aside0.mk ((by rw [hg]; exact (below_size zb) : w.heap.size ≤ gb42)); have n4_ := n3_; have n5_ := Aside0.mk ((by rw [hg]; exact Nat.ne_of_lt (blk_lt (g := gb41) (o := .cells #[.int .i64 a0_0, .int .i64 a0_1, .int .i64 a0_2, .int .i64 a0_3, .slice A0_4 l0_4.length c0_4] 84 (0, 0)) zk) : gb41 ≠ gb42)); have n6_ := Aside0.mk ((by rw [hg]; exact Nat.ne_of_gt (blk_lt (g := gb41) (o := .cells #[.int .i64 a0_0, .int .i64 a0_1, .int .i64 a0_2, .int .i64 a0_3, .slice A0_4 l0_4.length c0_4] 84 (0, 0)) zk) : gb42 ≠ gb41)); clear BK41; clear HB; have BK41 := n0_; have HB := n1_; have BK42 := n2_; have GW42 := n3_; have GE42 := n4_; have NB333_334 := n5_; have NB334_333 := n6_; clear n0_ n1_ n2_ n3_ n4_ n5_ n6_; clear hb hbox hg; have hnb23 := NB333_334.out; have hnc23 := NB334_333.out; obtain ⟨hcz24_0, hcz24_1, hcz24_2, hcz24_3, hcz24_4, hfz24_0, hfz24_1, hfz24_2, hfz24_3, hfz24_4⟩ := Go.Proofs.YtocdahbinombkaaGreat.Lv.blks5 BK41.out; obtain ⟨hcz25_0, hcz25_1, hcz25_2, hcz25_3, hcz25_4, hfz25_0, hfz25_1, hfz25_2, hfz25_3, hfz25_4⟩ := Go.Proofs.YtocdahbinombkaaGreat.Lv.blks5 BK42.out))
    go_ret
    exact ⟨ze, zb⟩
   rw [if_neg c5] at H
   have c5b0 : (a0_2 == a1_2) = false := beq_eq_false_iff_ne.mpr c5
   have c5b1 : (a0_2 != a1_2) = true := bne_iff_ne.mpr c5
   obtain rfl := Option.some.inj H
   go_enter Tryz.func75, Tryz.ntmps75
   go_wp2_with (first | ((with_reducible refine gate_dst (N := 2) rfl ?_); refine box_event ?hg (N := 2) ?hd (cs := #[.int .i64 a0_0, .int .i64 a0_1, .int .i64 a0_2, .int .i64 a0_3, .slice A0_4 l0_4.length c0_4]) (t := 84) ?hr ?_; (case hd => rfl); (case hg => rfl); (case hr => first | (go_simp; done) | (go_simp; rfl)); intro gb41 hg w26 hbox hb; have n0_ := Aside0.mk (below_step zb hb); have n1_ := Aside0.mk (hbox); have n2_ := Aside0.mk ((by rw [hg]; exact (below_size zb) : w.heap.size ≤ gb41)); have n3_ := n2_; clear HB; have HB := n0_; have BK41 := n1_; have GW41 := n2_; have GE41 := n3_; clear n0_ n1_ n2_ n3_; clear hb hbox hg) | ((with_reducible refine gate_dst (N := 3) rfl ?_); refine box_event ?hg (N := 3) ?hd (cs := #[.int .i64 a1_0, .int .i64 a1_1, .int .i64 a1_2, .int .i64 a1_3, .slice A1_4 l1_4.length c1_4]) (t := 84) ?hr ?_; (case hd => rfl); (case hg => rfl); (case hr => first | (go_simp; done) | (go_simp; rfl)); intro gb42 hg w27 hbox hb; have n0_ := Aside0.mk (blk_below (g := gb41) (o := .cells #[.int .i64 a0_0, .int .i64 a0_1, .int .i64 a0_2, .int .i64 a0_3, .slice A0_4 l0_4.length c0_4] 84 (0, 0)) zk hb); have n1_ := Aside0.mk (below_step zb hb); have n2_ := Aside0.mk (hbox); have n3_ := Aside0.mk ((by rw [hg]; exact (below_size zb) : w.heap.size ≤ gb42)); have n4_ := n3_; have n5_ := Aside0.mk ((by rw [hg]; exact Nat.ne_of_lt (blk_lt (g := gb41) (o := .cells #[.int .i64 a0_0, .int .i64 a0_1, .int .i64 a0_2, .int .i64 a0_3, .slice A0_4 l0_4.length c0_4] 84 (0, 0)) zk) : gb41 ≠ gb42)); have n6_ := Aside0.mk ((by rw [hg]; exact Nat.ne_of_gt (blk_lt (g := gb41) (o := .cells #[.int .i64 a0_0, .int .i64 a0_1, .int .i64 a0_2, .int .i64 a0_3, .slice A0_4 l0_4.length c0_4] 84 (0, 0)) zk) : gb42 ≠ gb41)); clear BK41; clear HB; have BK41 := n0_; have HB := n1_; have BK42 := n2_; have GW42 := n3_; have GE42 := n4_; have NB333_334 := n5_; have NB334_333 := n6_; clear n0_ n1_ n2_ n3_ n4_ n5_ n6_; clear hb hbox hg; have hnb28 := NB333_334.out; have hnc28 := NB334_333.out; obtain ⟨hcz29_0, hcz29_1, hcz29_2, hcz29_3, hcz29_4, hfz29_0, hfz29_1, hfz29_2, hfz29_3, hfz29_4⟩ := Go.Proofs.YtocdahbinombkaaGreat.Lv.blks5 BK41.out; obtain ⟨hcz30_0, hcz30_1, hcz30_2, hcz30_3, hcz30_4, hfz30_0, hfz30_1, hfz30_2, hfz30_3, hfz30_4⟩ := Go.Proofs.YtocdahbinombkaaGreat.Lv.blks5 BK42.out))
   go_ret
   exact ⟨ze, zb⟩
  rw [if_neg c4] at H
  have c4b0 : (a0_1 == a1_1) = false := beq_eq_false_iff_ne.mpr c4
  have c4b1 : (a0_1 != a1_1) = true := bne_iff_ne.mpr c4
  obtain rfl := Option.some.inj H
  go_enter Tryz.func75, Tryz.ntmps75
  go_wp2_with (first | ((with_reducible refine gate_dst (N := 2) rfl ?_); refine box_event ?hg (N := 2) ?hd (cs := #[.int .i64 a0_0, .int .i64 a0_1, .int .i64 a0_2, .int .i64 a0_3, .slice A0_4 l0_4.length c0_4]) (t := 84) ?hr ?_; (case hd => rfl); (case hg => rfl); (case hr => first | (go_simp; done) | (go_simp; rfl)); intro gb41 hg w31 hbox hb; have n0_ := Aside0.mk (below_step zb hb); have n1_ := Aside0.mk (hbox); have n2_ := Aside0.mk ((by rw [hg]; exact (below_size zb) : w.heap.size ≤ gb41)); have n3_ := n2_; clear HB; have HB := n0_; have BK41 := n1_; have GW41 := n2_; have GE41 := n3_; clear n0_ n1_ n2_ n3_; clear hb hbox hg) | ((with_reducible refine gate_dst (N := 3) rfl ?_); refine box_event ?hg (N := 3) ?hd (cs := #[.int .i64 a1_0, .int .i64 a1_1, .int .i64 a1_2, .int .i64 a1_3, .slice A1_4 l1_4.length c1_4]) (t := 84) ?hr ?_; (case hd => rfl); (case hg => rfl); (case hr => first | (go_simp; done) | (go_simp; rfl)); intro gb42 hg w32 hbox hb; have n0_ := Aside0.mk (blk_below (g := gb41) (o := .cells #[.int .i64 a0_0, .int .i64 a0_1, .int .i64 a0_2, .int .i64 a0_3, .slice A0_4 l0_4.length c0_4] 84 (0, 0)) zk hb); have n1_ := Aside0.mk (below_step zb hb); have n2_ := Aside0.mk (hbox); have n3_ := Aside0.mk ((by rw [hg]; exact (below_size zb) : w.heap.size ≤ gb42)); have n4_ := n3_; have n5_ := Aside0.mk ((by rw [hg]; exact Nat.ne_of_lt (blk_lt (g := gb41) (o := .cells #[.int .i64 a0_0, .int .i64 a0_1, .int .i64 a0_2, .int .i64 a0_3, .slice A0_4 l0_4.length c0_4] 84 (0, 0)) zk) : gb41 ≠ gb42)); have n6_ := Aside0.mk ((by rw [hg]; exact Nat.ne_of_gt (blk_lt (g := gb41) (o := .cells #[.int .i64 a0_0, .int .i64 a0_1, .int .i64 a0_2, .int .i64 a0_3, .slice A0_4 l0_4.length c0_4] 84 (0, 0)) zk) : gb42 ≠ gb41)); clear BK41; clear HB; have BK41 := n0_; have HB := n1_; have BK42 := n2_; have GW42 := n3_; have GE42 := n4_; have NB333_334 := n5_; have NB334_333 := n6_; clear n0_ n1_ n2_ n3_ n4_ n5_ n6_; clear hb hbox hg; have hnb33 := NB333_334.out; have hnc33 := NB334_333.out; obtain ⟨hcz34_0, hcz34_1, hcz34_2, hcz34_3, hcz34_4, hfz34_0, hfz34_1, hfz34_2, hfz34_3, hfz34_4⟩ := Go.Proofs.YtocdahbinombkaaGreat.Lv.blks5 BK41.out; obtain ⟨hcz35_0, hcz35_1, hcz35_2, hcz35_3, hcz35_4, hfz35_0, hfz35_1, hfz35_2, hfz35_3, hfz35_4⟩ := Go.Proofs.YtocdahbinombkaaGreat.Lv.blks5 BK42.out))
  go_ret
  exact ⟨ze, zb⟩
 rw [if_neg c3] at H
 have c3b0 : (a0_0 == a1_0) = false := beq_eq_false_iff_ne.mpr c3
 have c3b1 : (a0_0 != a1_0) = true := bne_iff_ne.mpr c3
 obtain rfl := Option.some.inj H
 go_enter Tryz.func75, Tryz.ntmps75
 go_wp2_with (first | ((with_reducible refine gate_dst (N := 2) rfl ?_); refine box_event ?hg (N := 2) ?hd (cs := #[.int .i64 a0_0, .int .i64 a0_1, .int .i64 a0_2, .int .i64 a0_3, .slice A0_4 l0_4.length c0_4]) (t := 84) ?hr ?_; (case hd => rfl); (case hg => rfl); (case hr => first | (go_simp; done) | (go_simp; rfl)); intro gb41 hg w36 hbox hb; have n0_ := Aside0.mk (below_step zb hb); have n1_ := Aside0.mk (hbox); have n2_ := Aside0.mk ((by rw [hg]; exact (below_size zb) : w.heap.size ≤ gb41)); have n3_ := n2_; clear HB; have HB := n0_; have BK41 := n1_; have GW41 := n2_; have GE41 := n3_; clear n0_ n1_ n2_ n3_; clear hb hbox hg) | ((with_reducible refine gate_dst (N := 3) rfl ?_); refine box_event ?hg (N := 3) ?hd (cs := #[.int .i64 a1_0, .int .i64 a1_1, .int .i64 a1_2, .int .i64 a1_3, .slice A1_4 l1_4.length c1_4]) (t := 84) ?hr ?_; (case hd => rfl); (case hg => rfl); (case hr => first | (go_simp; done) | (go_simp; rfl)); intro gb42 hg w37 hbox hb; have n0_ := Aside0.mk (blk_below (g := gb41) (o := .cells #[.int .i64 a0_0, .int .i64 a0_1, .int .i64 a0_2, .int .i64 a0_3, .slice A0_4 l0_4.length c0_4] 84 (0, 0)) zk hb); have n1_ := Aside0.mk (below_step zb hb); have n2_ := Aside0.mk (hbox); have n3_ := Aside0.mk ((by rw [hg]; exact (below_size zb) : w.heap.size ≤ gb42)); have n4_ := n3_; have n5_ := Aside0.mk ((by rw [hg]; exact Nat.ne_of_lt (blk_lt (g := gb41) (o := .cells #[.int .i64 a0_0, .int .i64 a0_1, .int .i64 a0_2, .int .i64 a0_3, .slice A0_4 l0_4.length c0_4] 84 (0, 0)) zk) : gb41 ≠ gb42)); have n6_ := Aside0.mk ((by rw [hg]; exact Nat.ne_of_gt (blk_lt (g := gb41) (o := .cells #[.int .i64 a0_0, .int .i64 a0_1, .int .i64 a0_2, .int .i64 a0_3, .slice A0_4 l0_4.length c0_4] 84 (0, 0)) zk) : gb42 ≠ gb41)); clear BK41; clear HB; have BK41 := n0_; have HB := n1_; have BK42 := n2_; have GW42 := n3_; have GE42 := n4_; have NB333_334 := n5_; have NB334_333 := n6_; clear n0_ n1_ n2_ n3_ n4_ n5_ n6_; clear hb hbox hg; have hnb38 := NB333_334.out; have hnc38 := NB334_333.out; obtain ⟨hcz39_0, hcz39_1, hcz39_2, hcz39_3, hcz39_4, hfz39_0, hfz39_1, hfz39_2, hfz39_3, hfz39_4⟩ := Go.Proofs.YtocdahbinombkaaGreat.Lv.blks5 BK41.out; obtain ⟨hcz40_0, hcz40_1, hcz40_2, hcz40_3, hcz40_4, hfz40_0, hfz40_1, hfz40_2, hfz40_3, hfz40_4⟩ := Go.Proofs.YtocdahbinombkaaGreat.Lv.blks5 BK42.out))
 go_ret
 exact ⟨ze, zb⟩
def laws_eqTxnS.T6 : Bool × List (List Nat × List Nat) := (true, [([], []), ([], []), ([0, 1], [0, 1]), ([2], [2]), ([], []), ([], []), ([4, 5], [4, 5]), ([6], [6]), ([3, 7], [3, 7]), ([8], [8])])
def laws_eqTxnS.B6 : List Nat := [0, 0, 3, 7, 0, 0, 48, 112, 255, 511]
theorem laws_eqTxnS.tab6 : rtab .any (opsOf Tryz.f34 6) = laws_eqTxnS.T6 := by kernel_rfl
theorem laws_eqTxnS.bits6 : waitsOk laws_eqTxnS.T6.2 laws_eqTxnS.B6 = true := by kernel_rfl
set_option maxHeartbeats 8000000 in
set_option maxRecDepth 100000 in
theorem laws_eqTxnS.calls (k : Nat) (A0 : Option Addr) (c0 : Nat) (l0 : List (S84)) (A1 : Option Addr) (c1 : Nat) (l1 : List (S84)) (r : Bool) (w : World) (hr0 : Kd.C k84 w A0 l0.length l0) (hc0 : l0.length ≤ c0) (hr1 : Kd.C k84 w A1 l1.length l1) (hc1 : l1.length ≤ c1) (h : laws_eqTxnS.f k l0 l1 = some r) :
 Calls Tryz.prog 34 #[.slice A0 l0.length c0, .slice A1 l1.length c1] w fun e w' => e = .returned (.bool r) ∧ Below w.heap.size w w' := by
 have hu84 := Tryz.underlying84
 have HR0 := Aside0.mk hr0
 have HC0 := Aside0.mk hc0
 clear hr0 hc0
 have HR1 := Aside0.mk hr1
 have HC1 := Aside0.mk hc1
 clear hr1 hc1
 have HB := Aside0.mk (Below.refl w.heap.size w)
 have H : (if (l0.length : Int) = (l1.length : Int) then (laws_eqTxnS.l0 k l0 l1 0) else (some false)) = some r := h
 clear h
 by_cases c3 : (l0.length : Int) = (l1.length : Int)
 ·rw [if_pos c3] at H
  have c3b0 : ((l0.length : Int) == (l1.length : Int)) = true := beq_iff_eq.mpr c3
  have c3b1 : ((l0.length : Int) != (l1.length : Int)) = false := bne_eq_false_iff_eq.mpr c3
  have c3b2 : (l0.length == l1.length) = true := by first | simpa using c3 | (simp at c3 ⊢; omega)
  clear c3
  have H' := Aside0.mk H
  clear H
  go_enter Tryz.func34, Tryz.ntmps34
  go_wp2
  go_loopg [5] k (fun kq v5 w' => ∃ (x5_1 : Int), v5 = .int .i64 x5_1 ∧ Aside0 (laws_eqTxnS.l0 kq l0 l1 x5_1 = some r) ∧ Aside0 (kq ≤ k) ∧ Aside0 (Below w.heap.size w w'))
  case atStart => exact ⟨(0), zs, H', ⟨Nat.le_refl _⟩, ⟨zb⟩⟩
  case round =>
   clear H'
   try clear c1
   try clear p2
   try clear c3
   try clear c3b0
   try clear c3b1
   try clear c3b2
   obtain ⟨x5_1, rfl, HA, HK1, HB⟩ := hrel
   cases gk with
   | zero => exact absurd HA.out (by simp [laws_eqTxnS.l0])
   | succ k1 =>
    have H := HA.out
    clear HA
    simp only [laws_eqTxnS.l0] at H
    by_cases c4 : x5_1 < (l0.length : Int)
    ·rw [if_pos c4] at H
     have c4b0 : decide (x5_1 < (l0.length : Int)) = true := decide_eq_true c4
     clear c4
     by_cases c5 : 0 ≤ x5_1
     ·rw [if_pos c5] at H
      have c5b0 : decide (0 ≤ x5_1) = true := decide_eq_true c5
      clear c5
      by_cases c6 : x5_1 < (l1.length : Int)
      ·rw [if_pos c6] at H
       have c6b0 : decide (x5_1 < (l1.length : Int)) = true := decide_eq_true c6
       clear c6
       replace H := Option.bind_eq_some_iff.mp H
       obtain ⟨t15, A70, H⟩ := H
       replace H : (if t15 = true then (laws_eqTxnS.l0 k1 l0 l1 (wrap64 (x5_1 + 1))) else (some false)) = some r := H
       have A7 := Aside0.mk A70
       clear A70
       by_cases c8 : t15 = true
       ·subst c8
        have H1 : (laws_eqTxnS.l0 k1 l0 l1 (wrap64 (x5_1 + 1))) = some r := by rw [if_pos rfl] at H; exact H
        clear H
        have H := H1
        clear H1
        have H' := Aside0.mk H
        clear H
        try go_wp2
        have n0_ := Aside0.mk (below_drew1 HB.out)
        clear HB
        have HB := n0_
        clear n0_
        have p336 : 0 ≤ (x5_1 : Int) := of_decide_eq_true za
        have q13 : x5_1 < (l0.length : Int) := of_decide_eq_true za
        obtain ⟨ad13, A13_4, c13_4, e336, hx13_0, hx13_1, hx13_2, hx13_3, hx13_4, hl13_4, hi336_4⟩ := at_T84 HR0.out x5_1 p336 q13
        have hw13_4 := hx13_4
        have hw13_3 := hx13_3
        have hw13_2 := hx13_2
        have hw13_1 := hx13_1
        have hw13_0 := hx13_0
        cases e336
        replace hx13_0 := zx HB hx13_0
        replace hx13_1 := zx HB hx13_1
        replace hx13_2 := zx HB hx13_2
        replace hx13_3 := zx HB hx13_3
        replace hx13_4 := zx HB hx13_4
        have HR336_4 := Aside0.mk hi336_4
        have HC336_4 := Aside0.mk hl13_4
        clear hi336_4 hl13_4
        replace p336 := eq_true p336
        replace q13 := eq_true q13
        have p337 : 0 ≤ (x5_1 : Int) := of_decide_eq_true za
        have q14 : x5_1 < (l1.length : Int) := of_decide_eq_true za
        obtain ⟨ad14, A14_4, c14_4, e337, hx14_0, hx14_1, hx14_2, hx14_3, hx14_4, hl14_4, hi337_4⟩ := at_T84 HR1.out x5_1 p337 q14
        have hw14_4 := hx14_4
        have hw14_3 := hx14_3
        have hw14_2 := hx14_2
        have hw14_1 := hx14_1
        have hw14_0 := hx14_0
        cases e337
        replace hx14_0 := zx HB hx14_0
        replace hx14_1 := zx HB hx14_1
        replace hx14_2 := zx HB hx14_2
        replace hx14_3 := zx HB hx14_3
        replace hx14_4 := zx HB hx14_4
        have HR337_4 := Aside0.mk hi337_4
        have HC337_4 := Aside0.mk hl14_4
        clear hi337_4 hl14_4
        replace p337 := eq_true p337
        replace q14 := eq_true q14
        refine start_ (n := 10) (S := fun w' => w'.cell? (ad13.add ((x5_1).toNat * 5)) = some (.int .i64 ((rd_T84 l0 x5_1).f0)) ∧ w'.cell? ⟨(ad13.add ((x5_1).toNat * 5)).block, (ad13.add ((x5_1).toNat * 5)).off + 1, none⟩ = some (.int .i64 ((rd_T84 l0 x5_1).f1)) ∧ w'.cell? ⟨(ad13.add ((x5_1).toNat * 5)).block, (ad13.add ((x5_1).toNat * 5)).off + 2, none⟩ = some (.int .i64 ((rd_T84 l0 x5_1).f2)) ∧ w'.cell? ⟨(ad13.add ((x5_1).toNat * 5)).block, (ad13.add ((x5_1).toNat * 5)).off + 3, none⟩ = some (.int .i64 ((rd_T84 l0 x5_1).f3)) ∧ w'.cell? ⟨(ad13.add ((x5_1).toNat * 5)).block, (ad13.add ((x5_1).toNat * 5)).off + 4, none⟩ = some (.slice A13_4 ((rd_T84 l0 x5_1).f4).length c13_4) ∧ w'.cell? (ad14.add ((x5_1).toNat * 5)) = some (.int .i64 ((rd_T84 l1 x5_1).f0)) ∧ w'.cell? ⟨(ad14.add ((x5_1).toNat * 5)).block, (ad14.add ((x5_1).toNat * 5)).off + 1, none⟩ = some (.int .i64 ((rd_T84 l1 x5_1).f1)) ∧ w'.cell? ⟨(ad14.add ((x5_1).toNat * 5)).block, (ad14.add ((x5_1).toNat * 5)).off + 2, none⟩ = some (.int .i64 ((rd_T84 l1 x5_1).f2)) ∧ w'.cell? ⟨(ad14.add ((x5_1).toNat * 5)).block, (ad14.add ((x5_1).toNat * 5)).off + 3, none⟩ = some (.int .i64 ((rd_T84 l1 x5_1).f3)) ∧ w'.cell? ⟨(ad14.add ((x5_1).toNat * 5)).block, (ad14.add ((x5_1).toNat * 5)).off + 4, none⟩ = some (.slice A14_4 ((rd_T84 l1 x5_1).f4).length c14_4)) (ds := []) #[false, false, false, false, false, false, false, false, false, false] (by kernel_rfl) rfl rfl ⟨((HB.out.cell (World.block_lt_of_cell? w _ hw13_0)).trans hw13_0), ((HB.out.cell (World.block_lt_of_cell? w _ hw13_1)).trans hw13_1), ((HB.out.cell (World.block_lt_of_cell? w _ hw13_2)).trans hw13_2), ((HB.out.cell (World.block_lt_of_cell? w _ hw13_3)).trans hw13_3), ((HB.out.cell (World.block_lt_of_cell? w _ hw13_4)).trans hw13_4), ((HB.out.cell (World.block_lt_of_cell? w _ hw14_0)).trans hw14_0), ((HB.out.cell (World.block_lt_of_cell? w _ hw14_1)).trans hw14_1), ((HB.out.cell (World.block_lt_of_cell? w _ hw14_2)).trans hw14_2), ((HB.out.cell (World.block_lt_of_cell? w _ hw14_3)).trans hw14_3), ((HB.out.cell (World.block_lt_of_cell? w _ hw14_4)).trans hw14_4)⟩ (fun hHeld => ?_); refine with_tabW laws_eqTxnS.tab6 laws_eqTxnS.bits6 (fun HT_ HW_ => ?_)
        generalize wr.drew = w9 at HB HR336_4 HR337_4 hx13_0 hx13_1 hx13_2 hx13_3 hx13_4 hx14_0 hx14_1 hx14_2 hx14_3 hx14_4 hHeld ⊢
        refine zp 0 17 ?_; refine zp 1 18 ?_; refine zp 2 19 ?_; refine zp 4 21 ?_; refine zp 5 22 ?_; refine zp 6 23 ?_; refine zt 3 20 ?_; refine zt 7 24 ?_
        refine one_ (i := 8) (N := some 25) #[true, true, true, true, true, true, true, true, true, false] rfl rfl (one_of HT_.out (by kernel_rfl)) (by decide) (fun K hK => ?_)
        refine goes_ Tryz.func75 (by kernel_rfl) rfl #[.agg #[.int .i64 ((rd_T84 l0 x5_1).f0), .int .i64 ((rd_T84 l0 x5_1).f1), .int .i64 ((rd_T84 l0 x5_1).f2), .int .i64 ((rd_T84 l0 x5_1).f3), .slice A13_4 ((rd_T84 l0 x5_1).f4).length c13_4], .agg #[.int .i64 ((rd_T84 l1 x5_1).f0), .int .i64 ((rd_T84 l1 x5_1).f1), .int .i64 ((rd_T84 l1 x5_1).f2), .int .i64 ((rd_T84 l1 x5_1).f3), .slice A14_4 ((rd_T84 l1 x5_1).f4).length c14_4]] (by rfl) rfl rfl zm ?_
        with_reducible refine (laws_eqTxn.calls k1 ((rd_T84 l0 x5_1).f0) ((rd_T84 l0 x5_1).f1) ((rd_T84 l0 x5_1).f2) ((rd_T84 l0 x5_1).f3) _ _ ((rd_T84 l0 x5_1).f4) ((rd_T84 l1 x5_1).f0) ((rd_T84 l1 x5_1).f1) ((rd_T84 l1 x5_1).f2) ((rd_T84 l1 x5_1).f3) _ _ ((rd_T84 l1 x5_1).f4) true _ ?side1 ?side2 ?side3 ?side4 A7.out).mono ?_
        (case side1 => repeat (first | exact (Kd.C_below HR336_4.out HB.out) | (with_reducible first | refine Kd.C_alloc ?_ _ | refine Kd.C_drewN ?_ _ | refine Kd.C_drew ?_)))
        (case side2 => exact HC336_4.out)
        (case side3 => repeat (first | exact (Kd.C_below HR337_4.out HB.out) | (with_reducible first | refine Kd.C_alloc ?_ _ | refine Kd.C_drewN ?_ _ | refine Kd.C_drew ?_)))
        (case side4 => exact HC337_4.out)
        rintro e w10 ⟨rfl, hb⟩
        refine ⟨_, rfl, ?_⟩
        have n0_ := Aside0.mk (below_step zb hb)
        clear HB
        have HB := n0_
        clear n0_
        (try clear hb)
        (try clear hb2)
        (try clear hk)
        (try clear hi)
        refine hK.out _ _ ⟨((HB.out.cell (World.block_lt_of_cell? w _ hw13_0)).trans hw13_0), ((HB.out.cell (World.block_lt_of_cell? w _ hw13_1)).trans hw13_1), ((HB.out.cell (World.block_lt_of_cell? w _ hw13_2)).trans hw13_2), ((HB.out.cell (World.block_lt_of_cell? w _ hw13_3)).trans hw13_3), ((HB.out.cell (World.block_lt_of_cell? w _ hw13_4)).trans hw13_4), ((HB.out.cell (World.block_lt_of_cell? w _ hw14_0)).trans hw14_0), ((HB.out.cell (World.block_lt_of_cell? w _ hw14_1)).trans hw14_1), ((HB.out.cell (World.block_lt_of_cell? w _ hw14_2)).trans hw14_2), ((HB.out.cell (World.block_lt_of_cell? w _ hw14_3)).trans hw14_3), ((HB.out.cell (World.block_lt_of_cell? w _ hw14_4)).trans hw14_4)⟩ (fun hHeld => ?_)
        clear hK K
        refine norm_ (a' := ?_) ?_ ?_
        rotate_left
        ·show Act.put _ (some 25) _ = _
         simp only [Act.put, List.setIfInBounds_toArray, List.set_cons_zero, List.set_cons_succ, i64_w, i32_w]
         rfl
        refine zp 9 26 ?_
        refine done_ (done_of HT_.out (by kernel_rfl)) ?_
        try go_wp2
        go_roundg k1
        case measure => have := HK1.out; omega
        case rel => exact ⟨(wrap64 (x5_1 + 1)), zs, H', ⟨by have := HK1.out; omega⟩, ⟨zb⟩⟩
       replace c8 := Bool.eq_false_iff.mpr c8
       subst c8
       have H1 : (some false) = some r := by rw [if_neg (show ¬ (false = true) by decide)] at H; exact H
       clear H
       have H := H1
       clear H1
       obtain rfl := Option.some.inj H
       try go_wp2
       have n0_ := Aside0.mk (below_drew1 HB.out)
       clear HB
       have HB := n0_
       clear n0_
       have p336 : 0 ≤ (x5_1 : Int) := of_decide_eq_true za
       have q13 : x5_1 < (l0.length : Int) := of_decide_eq_true za
       obtain ⟨ad13, A13_4, c13_4, e336, hx13_0, hx13_1, hx13_2, hx13_3, hx13_4, hl13_4, hi336_4⟩ := at_T84 HR0.out x5_1 p336 q13
       have hw13_4 := hx13_4
       have hw13_3 := hx13_3
       have hw13_2 := hx13_2
       have hw13_1 := hx13_1
       have hw13_0 := hx13_0
       cases e336
       replace hx13_0 := zx HB hx13_0
       replace hx13_1 := zx HB hx13_1
       replace hx13_2 := zx HB hx13_2
       replace hx13_3 := zx HB hx13_3
       replace hx13_4 := zx HB hx13_4
       have HR336_4 := Aside0.mk hi336_4
       have HC336_4 := Aside0.mk hl13_4
       clear hi336_4 hl13_4
       replace p336 := eq_true p336
       replace q13 := eq_true q13
       have p337 : 0 ≤ (x5_1 : Int) := of_decide_eq_true za
       have q14 : x5_1 < (l1.length : Int) := of_decide_eq_true za
       obtain ⟨ad14, A14_4, c14_4, e337, hx14_0, hx14_1, hx14_2, hx14_3, hx14_4, hl14_4, hi337_4⟩ := at_T84 HR1.out x5_1 p337 q14
       have hw14_4 := hx14_4
       have hw14_3 := hx14_3
       have hw14_2 := hx14_2
       have hw14_1 := hx14_1
       have hw14_0 := hx14_0
       cases e337
       replace hx14_0 := zx HB hx14_0
       replace hx14_1 := zx HB hx14_1
       replace hx14_2 := zx HB hx14_2
       replace hx14_3 := zx HB hx14_3
       replace hx14_4 := zx HB hx14_4
       have HR337_4 := Aside0.mk hi337_4
       have HC337_4 := Aside0.mk hl14_4
       clear hi337_4 hl14_4
       replace p337 := eq_true p337
       replace q14 := eq_true q14
       refine start_ (n := 10) (S := fun w' => w'.cell? (ad13.add ((x5_1).toNat * 5)) = some (.int .i64 ((rd_T84 l0 x5_1).f0)) ∧ w'.cell? ⟨(ad13.add ((x5_1).toNat * 5)).block, (ad13.add ((x5_1).toNat * 5)).off + 1, none⟩ = some (.int .i64 ((rd_T84 l0 x5_1).f1)) ∧ w'.cell? ⟨(ad13.add ((x5_1).toNat * 5)).block, (ad13.add ((x5_1).toNat * 5)).off + 2, none⟩ = some (.int .i64 ((rd_T84 l0 x5_1).f2)) ∧ w'.cell? ⟨(ad13.add ((x5_1).toNat * 5)).block, (ad13.add ((x5_1).toNat * 5)).off + 3, none⟩ = some (.int .i64 ((rd_T84 l0 x5_1).f3)) ∧ w'.cell? ⟨(ad13.add ((x5_1).toNat * 5)).block, (ad13.add ((x5_1).toNat * 5)).off + 4, none⟩ = some (.slice A13_4 ((rd_T84 l0 x5_1).f4).length c13_4) ∧ w'.cell? (ad14.add ((x5_1).toNat * 5)) = some (.int .i64 ((rd_T84 l1 x5_1).f0)) ∧ w'.cell? ⟨(ad14.add ((x5_1).toNat * 5)).block, (ad14.add ((x5_1).toNat * 5)).off + 1, none⟩ = some (.int .i64 ((rd_T84 l1 x5_1).f1)) ∧ w'.cell? ⟨(ad14.add ((x5_1).toNat * 5)).block, (ad14.add ((x5_1).toNat * 5)).off + 2, none⟩ = some (.int .i64 ((rd_T84 l1 x5_1).f2)) ∧ w'.cell? ⟨(ad14.add ((x5_1).toNat * 5)).block, (ad14.add ((x5_1).toNat * 5)).off + 3, none⟩ = some (.int .i64 ((rd_T84 l1 x5_1).f3)) ∧ w'.cell? ⟨(ad14.add ((x5_1).toNat * 5)).block, (ad14.add ((x5_1).toNat * 5)).off + 4, none⟩ = some (.slice A14_4 ((rd_T84 l1 x5_1).f4).length c14_4)) (ds := []) #[false, false, false, false, false, false, false, false, false, false] (by kernel_rfl) rfl rfl ⟨((HB.out.cell (World.block_lt_of_cell? w _ hw13_0)).trans hw13_0), ((HB.out.cell (World.block_lt_of_cell? w _ hw13_1)).trans hw13_1), ((HB.out.cell (World.block_lt_of_cell? w _ hw13_2)).trans hw13_2), ((HB.out.cell (World.block_lt_of_cell? w _ hw13_3)).trans hw13_3), ((HB.out.cell (World.block_lt_of_cell? w _ hw13_4)).trans hw13_4), ((HB.out.cell (World.block_lt_of_cell? w _ hw14_0)).trans hw14_0), ((HB.out.cell (World.block_lt_of_cell? w _ hw14_1)).trans hw14_1), ((HB.out.cell (World.block_lt_of_cell? w _ hw14_2)).trans hw14_2), ((HB.out.cell (World.block_lt_of_cell? w _ hw14_3)).trans hw14_3), ((HB.out.cell (World.block_lt_of_cell? w _ hw14_4)).trans hw14_4)⟩ (fun hHeld => ?_); refine with_tabW laws_eqTxnS.tab6 laws_eqTxnS.bits6 (fun HT_ HW_ => ?_)
       generalize wr.drew = w11 at HB HR336_4 HR337_4 hx13_0 hx13_1 hx13_2 hx13_3 hx13_4 hx14_0 hx14_1 hx14_2 hx14_3 hx14_4 hHeld ⊢
       refine zp 0 17 ?_; refine zp 1 18 ?_; refine zp 2 19 ?_; refine zp 4 21 ?_; refine zp 5 22 ?_; refine zp 6 23 ?_; refine zt 3 20 ?_; refine zt 7 24 ?_
       refine one_ (i := 8) (N := some 25) #[true, true, true, true, true, true, true, true, true, false] rfl rfl (one_of HT_.out (by kernel_rfl)) (by decide) (fun K hK => ?_)
       refine goes_ Tryz.func75 (by kernel_rfl) rfl #[.agg #[.int .i64 ((rd_T84 l0 x5_1).f0), .int .i64 ((rd_T84 l0 x5_1).f1), .int .i64 ((rd_T84 l0 x5_1).f2), .int .i64 ((rd_T84 l0 x5_1).f3), .slice A13_4 ((rd_T84 l0 x5_1).f4).length c13_4], .agg #[.int .i64 ((rd_T84 l1 x5_1).f0), .int .i64 ((rd_T84 l1 x5_1).f1), .int .i64 ((rd_T84 l1 x5_1).f2), .int .i64 ((rd_T84 l1 x5_1).f3), .slice A14_4 ((rd_T84 l1 x5_1).f4).length c14_4]] (by rfl) rfl rfl zm ?_
       with_reducible refine (laws_eqTxn.calls k1 ((rd_T84 l0 x5_1).f0) ((rd_T84 l0 x5_1).f1) ((rd_T84 l0 x5_1).f2) ((rd_T84 l0 x5_1).f3) _ _ ((rd_T84 l0 x5_1).f4) ((rd_T84 l1 x5_1).f0) ((rd_T84 l1 x5_1).f1) ((rd_T84 l1 x5_1).f2) ((rd_T84 l1 x5_1).f3) _ _ ((rd_T84 l1 x5_1).f4) false _ ?side1 ?side2 ?side3 ?side4 A7.out).mono ?_
       (case side1 => repeat (first | exact (Kd.C_below HR336_4.out HB.out) | (with_reducible first | refine Kd.C_alloc ?_ _ | refine Kd.C_drewN ?_ _ | refine Kd.C_drew ?_)))
       (case side2 => exact HC336_4.out)
       (case side3 => repeat (first | exact (Kd.C_below HR337_4.out HB.out) | (with_reducible first | refine Kd.C_alloc ?_ _ | refine Kd.C_drewN ?_ _ | refine Kd.C_drew ?_)))
       (case side4 => exact HC337_4.out)
       rintro e w12 ⟨rfl, hb⟩
       refine ⟨_, rfl, ?_⟩
       have n0_ := Aside0.mk (below_step zb hb)
       clear HB
       have HB := n0_
       clear n0_
       (try clear hb)
       (try clear hb2)
       (try clear hk)
       (try clear hi)
       refine hK.out _ _ ⟨((HB.out.cell (World.block_lt_of_cell? w _ hw13_0)).trans hw13_0), ((HB.out.cell (World.block_lt_of_cell? w _ hw13_1)).trans hw13_1), ((HB.out.cell (World.block_lt_of_cell? w _ hw13_2)).trans hw13_2), ((HB.out.cell (World.block_lt_of_cell? w _ hw13_3)).trans hw13_3), ((HB.out.cell (World.block_lt_of_cell? w _ hw13_4)).trans hw13_4), ((HB.out.cell (World.block_lt_of_cell? w _ hw14_0)).trans hw14_0), ((HB.out.cell (World.block_lt_of_cell? w _ hw14_1)).trans hw14_1), ((HB.out.cell (World.block_lt_of_cell? w _ hw14_2)).trans hw14_2), ((HB.out.cell (World.block_lt_of_cell? w _ hw14_3)).trans hw14_3), ((HB.out.cell (World.block_lt_of_cell? w _ hw14_4)).trans hw14_4)⟩ (fun hHeld => ?_)
       clear hK K
       refine norm_ (a' := ?_) ?_ ?_
       rotate_left
       ·show Act.put _ (some 25) _ = _
        simp only [Act.put, List.setIfInBounds_toArray, List.set_cons_zero, List.set_cons_succ, i64_w, i32_w]
        rfl
       refine zp 9 26 ?_
       refine done_ (done_of HT_.out (by kernel_rfl)) ?_
       try go_wp2
       go_ret
       exact ⟨ze, zb⟩
      rw [if_neg c6] at H
      exact absurd H (by simp)
     rw [if_neg c5] at H
     exact absurd H (by simp)
    rw [if_neg c4] at H
    have c4b0 : decide (x5_1 < (l0.length : Int)) = false := decide_eq_false c4
    clear c4
    obtain rfl := Option.some.inj H
    go_wp2
    go_ret
    exact ⟨ze, zb⟩
 rw [if_neg c3] at H
 have c3b0 : ((l0.length : Int) == (l1.length : Int)) = false := beq_eq_false_iff_ne.mpr c3
 have c3b1 : ((l0.length : Int) != (l1.length : Int)) = true := bne_iff_ne.mpr c3
 have c3b2 : (l0.length == l1.length) = false := by first | simpa using c3 | (simp at c3 ⊢; omega)
 obtain rfl := Option.some.inj H
 go_enter Tryz.func34, Tryz.ntmps34
 go_wp2
 go_ret
 exact ⟨ze, zb⟩
end Go.Proofs.YtocdahbinombkaaGreat.P
