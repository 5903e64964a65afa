import Derived.Test.YtldlnafakfigeaaDoorZz
import Derived.Test.YtldlnafakfigeaaDoorP0
import Derived.Test.YtldlnafakfigeaaDoorPCall0
import Derived.Test.YtldlnafakfigeaaDoorPCall11
import Derived.Test.YtldlnafakfigeaaDoorPCall12
import Derived.Test.YtldlnafakfigeaaDoorPCall4
import Derived.Test.YtldlnafakfigeaaDoorPCall5
import Derived.Test.YtldlnafakfigeaaDoorPCall9
import Derived.Test.YtldlnafakfigeaaDoorPDall0
import Derived.Test.YtldlnafakfigeaaDoorWRepsOne
import Derived.Test.YtldlnafakfigeaaDoorWTab
import Derived.Test.YtldlnafakfigeaaDoorLv
import Derived.Test.YtldlnafakfigeaaDoorLv
namespace Go.Proofs.YtldlnafakfigeaaDoor.P
open Go.RowKit Go.Proofs.YtldlnafakfigeaaDoorW.PrintWords Go.Proofs.YtldlnafakfigeaaDoorW.PrintLast Go.Proofs.YtldlnafakfigeaaDoorW.PrintMore
attribute [local go_sem] max2_int min2_int max_two min_two max_three min_three max_four min_four   -- for this text's walks alone
set_option linter.unusedVariables false
set_option linter.unusedSimpArgs false
def laws_eqRowS.T6 : Bool × List (List Nat × List Nat) := (true, [([], []), ([], []), ([0, 1], [0, 1]), ([2], [2]), ([], []), ([], []), ([4, 5], [4, 5]), ([6], [6]), ([3, 7], [3, 7]), ([8], [8])])
def laws_eqRowS.B6 : List Nat := [0, 0, 3, 7, 0, 0, 48, 112, 255, 511]
theorem laws_eqRowS.tab6 : rtab .any (opsOf Tryd.f20 6) = laws_eqRowS.T6 := by kernel_rfl
theorem laws_eqRowS.bits6 : waitsOk laws_eqRowS.T6.2 laws_eqRowS.B6 = true := by kernel_rfl
set_option maxHeartbeats 8000000 in
set_option maxRecDepth 100000 in
theorem laws_eqRowS.calls (k : Nat) (A0 : Option Addr) (c0 : Nat) (l0 : List (S49)) (A1 : Option Addr) (c1 : Nat) (l1 : List (S49)) (r : Bool) (w : World) (hr0 : Kd.C k49 w A0 l0.length l0) (hc0 : l0.length ≤ c0) (hr1 : Kd.C k49 w A1 l1.length l1) (hc1 : l1.length ≤ c1) (h : laws_eqRowS.f k l0 l1 = some r) :
 Calls Tryd.prog 20 #[.slice A0 l0.length c0, .slice A1 l1.length c1] w fun e w' => e = .returned (.bool r) ∧ Below w.heap.size w w' := by
 have hu49 := Tryd.underlying49
 have HR0 := Aside0.mk hr0
 have HC0 := Aside0.mk hc0
 clear hr0 hc0
 have HR1 := Aside0.mk hr1
 have HC1 := Aside0.mk hc1
 clear hr1 hc1
 have HB := Aside0.mk (Below.refl w.heap.size w)
 have H : (if (l0.length : Int) = (l1.length : Int) then (laws_eqRowS.l0 k l0 l1 0) else (some false)) = some r := h
 clear h
 by_cases c3 : (l0.length : Int) = (l1.length : Int)
 ·rw [if_pos c3] at H
  have c3b0 : ((l0.length : Int) == (l1.length : Int)) = true := beq_iff_eq.mpr c3
  have c3b1 : ((l0.length : Int) != (l1.length : Int)) = false := bne_eq_false_iff_eq.mpr c3
  have c3b2 : (l0.length == l1.length) = true := by first | simpa using c3 | (simp at c3 ⊢; omega)
  clear c3
  have H' := Aside0.mk H
  clear H
  go_enter Tryd.func20, Tryd.ntmps20
  go_wp2
  go_loopg [5] k (fun kq v5 w' => ∃ (x5_1 : Int), v5 = .int .i64 x5_1 ∧ Aside0 (laws_eqRowS.l0 kq l0 l1 x5_1 = some r) ∧ Aside0 (kq ≤ k) ∧ Aside0 (Below w.heap.size w w'))
  case atStart => exact ⟨(0), zs, H', ⟨Nat.le_refl _⟩, ⟨zb⟩⟩
  case round =>
   clear H'
   try clear c1
   try clear c2
   try clear p2
   try clear c3
   try clear c3b0
   try clear c3b1
   try clear c3b2
   obtain ⟨x5_1, rfl, HA, HK1, HB⟩ := hrel
   cases gk with
   | zero => exact absurd HA.out (by simp [laws_eqRowS.l0])
   | succ k1 =>
    have H := HA.out
    clear HA
    simp only [laws_eqRowS.l0] at H
    by_cases c4 : x5_1 < (l0.length : Int)
    ·rw [if_pos c4] at H
     have c4b0 : decide (x5_1 < (l0.length : Int)) = true := decide_eq_true c4
     clear c4
     by_cases c5 : 0 ≤ x5_1
     ·rw [if_pos c5] at H
      have c5b0 : decide (0 ≤ x5_1) = true := decide_eq_true c5
      clear c5
      by_cases c6 : x5_1 < (l1.length : Int)
      ·rw [if_pos c6] at H
       have c6b0 : decide (x5_1 < (l1.length : Int)) = true := decide_eq_true c6
       clear c6
       replace H := Option.bind_eq_some_iff.mp H
       obtain ⟨t15, A70, H⟩ := H
       replace H : (if t15 = true then (laws_eqRowS.l0 k1 l0 l1 (wrap64 (x5_1 + 1))) else (some false)) = some r := H
       have A7 := Aside0.mk A70
       clear A70
       by_cases c8 : t15 = true
       ·subst c8
        have H1 : (laws_eqRowS.l0 k1 l0 l1 (wrap64 (x5_1 + 1))) = some r := by rw [if_pos rfl] at H; exact H
        clear H
        have H := H1
        clear H1
        have H' := Aside0.mk H
        clear H
        try go_wp2
        replace HB := Aside0.mk (below_drew1 HB.out)
        have p303 : 0 ≤ (x5_1 : Int) := of_decide_eq_true za
        have q13 : x5_1 < (l0.length : Int) := of_decide_eq_true za
        obtain ⟨ad13, A13_1, c13_1, e303, hx13_0, hx13_1, hl13_1, hi303_1⟩ := at_T49 HR0.out x5_1 p303 q13
        have hw13_1 := hx13_1
        have hw13_0 := hx13_0
        cases e303
        replace hx13_0 := zx HB hx13_0
        replace hx13_1 := zx HB hx13_1
        have HR303_1 := Aside0.mk hi303_1
        have HC303_1 := Aside0.mk hl13_1
        clear hi303_1 hl13_1
        replace p303 := eq_true p303
        replace q13 := eq_true q13
        have p304 : 0 ≤ (x5_1 : Int) := of_decide_eq_true za
        have q14 : x5_1 < (l1.length : Int) := of_decide_eq_true za
        obtain ⟨ad14, A14_1, c14_1, e304, hx14_0, hx14_1, hl14_1, hi304_1⟩ := at_T49 HR1.out x5_1 p304 q14
        have hw14_1 := hx14_1
        have hw14_0 := hx14_0
        cases e304
        replace hx14_0 := zx HB hx14_0
        replace hx14_1 := zx HB hx14_1
        have HR304_1 := Aside0.mk hi304_1
        have HC304_1 := Aside0.mk hl14_1
        clear hi304_1 hl14_1
        replace p304 := eq_true p304
        replace q14 := eq_true q14
        refine start_ (n := 10) (S := fun w' => w'.cell? (ad13.add ((x5_1).toNat * 2)) = some (.int .i64 ((rd_T49 l0 x5_1).f0)) ∧ w'.cell? ⟨(ad13.add ((x5_1).toNat * 2)).block, (ad13.add ((x5_1).toNat * 2)).off + 1, none⟩ = some (.slice A13_1 ((rd_T49 l0 x5_1).f1).length c13_1) ∧ w'.cell? (ad14.add ((x5_1).toNat * 2)) = some (.int .i64 ((rd_T49 l1 x5_1).f0)) ∧ w'.cell? ⟨(ad14.add ((x5_1).toNat * 2)).block, (ad14.add ((x5_1).toNat * 2)).off + 1, none⟩ = some (.slice A14_1 ((rd_T49 l1 x5_1).f1).length c14_1)) (ds := []) #[Z, Z, Z, Z, Z, Z, Z, Z, Z, Z] (by kernel_rfl) rfl rfl ⟨((HB.out.cell (World.block_lt_of_cell? w _ hw13_0)).trans hw13_0), ((HB.out.cell (World.block_lt_of_cell? w _ hw13_1)).trans hw13_1), ((HB.out.cell (World.block_lt_of_cell? w _ hw14_0)).trans hw14_0), ((HB.out.cell (World.block_lt_of_cell? w _ hw14_1)).trans hw14_1)⟩ (fun hHeld => ?_); refine with_tabW laws_eqRowS.tab6 laws_eqRowS.bits6 (fun HT_ HW_ => ?_)
        generalize wr.drew = w9 at HB HR303_1 HR304_1 hx13_0 hx13_1 hx14_0 hx14_1 hHeld ⊢
        refine zp 0 17 ?_; refine zp 1 18 ?_; refine zp 2 19 ?_; refine zp 4 21 ?_; refine zp 5 22 ?_; refine zp 6 23 ?_; refine zt 3 20 ?_; refine zt 7 24 ?_
        refine one_ (i := 8) (N := some 25) #[Y, Y, Y, Y, Y, Y, Y, Y, Y, Z] rfl rfl (one_of HT_.out (by kernel_rfl)) (by decide) (fun K hK => ?_)
        refine goes_ Tryd.func48 (by kernel_rfl) rfl #[.agg #[.int .i64 ((rd_T49 l0 x5_1).f0), .slice A13_1 ((rd_T49 l0 x5_1).f1).length c13_1], .agg #[.int .i64 ((rd_T49 l1 x5_1).f0), .slice A14_1 ((rd_T49 l1 x5_1).f1).length c14_1]] (by rfl) rfl rfl zm ?_
        with_reducible refine (laws_eqRow.calls k1 ((rd_T49 l0 x5_1).f0) _ _ ((rd_T49 l0 x5_1).f1) ((rd_T49 l1 x5_1).f0) _ _ ((rd_T49 l1 x5_1).f1) true _ ?side1 ?side2 ?side3 ?side4 A7.out).mono ?_
        (case side1 => exact zc (Kd.C_below HR303_1.out HB.out))
        (case side2 => exact HC303_1.out)
        (case side3 => exact zc (Kd.C_below HR304_1.out HB.out))
        (case side4 => exact HC304_1.out)
        rintro e w10 ⟨rfl, hb⟩
        refine ⟨_, rfl, ?_⟩
        replace HB := Aside0.mk (below_step zb hb)
        (try clear hb)
        (try clear hb2)
        (try clear hk)
        (try clear hi)
        refine hK.out _ _ ⟨((HB.out.cell (World.block_lt_of_cell? w _ hw13_0)).trans hw13_0), ((HB.out.cell (World.block_lt_of_cell? w _ hw13_1)).trans hw13_1), ((HB.out.cell (World.block_lt_of_cell? w _ hw14_0)).trans hw14_0), ((HB.out.cell (World.block_lt_of_cell? w _ hw14_1)).trans hw14_1)⟩ (fun hHeld => ?_)
        clear hK K
        refine norm_ (a' := ?_) ?_ ?_
        rotate_left
        ·show Act.put _ (some 25) _ = _
         simp only [Act.put, List.setIfInBounds_toArray, List.set_cons_zero, List.set_cons_succ, i64_w, i32_w]
         rfl
        refine zp 9 26 ?_
        refine done_ (done_of HT_.out (by kernel_rfl)) ?_
        try go_wp2
        go_roundg k1
        case measure => have := HK1.out; omega
        case rel => exact ⟨(wrap64 (x5_1 + 1)), zs, H', ⟨by have := HK1.out; omega⟩, ⟨zb⟩⟩
       replace c8 := Bool.eq_false_iff.mpr c8
       subst c8
       have H1 : (some false) = some r := by rw [if_neg (show ¬ (false = true) by decide)] at H; exact H
       clear H
       have H := H1
       clear H1
       obtain rfl := Option.some.inj H
       try go_wp2
       replace HB := Aside0.mk (below_drew1 HB.out)
       have p303 : 0 ≤ (x5_1 : Int) := of_decide_eq_true za
       have q13 : x5_1 < (l0.length : Int) := of_decide_eq_true za
       obtain ⟨ad13, A13_1, c13_1, e303, hx13_0, hx13_1, hl13_1, hi303_1⟩ := at_T49 HR0.out x5_1 p303 q13
       have hw13_1 := hx13_1
       have hw13_0 := hx13_0
       cases e303
       replace hx13_0 := zx HB hx13_0
       replace hx13_1 := zx HB hx13_1
       have HR303_1 := Aside0.mk hi303_1
       have HC303_1 := Aside0.mk hl13_1
       clear hi303_1 hl13_1
       replace p303 := eq_true p303
       replace q13 := eq_true q13
       have p304 : 0 ≤ (x5_1 : Int) := of_decide_eq_true za
       have q14 : x5_1 < (l1.length : Int) := of_decide_eq_true za
       obtain ⟨ad14, A14_1, c14_1, e304, hx14_0, hx14_1, hl14_1, hi304_1⟩ := at_T49 HR1.out x5_1 p304 q14
       have hw14_1 := hx14_1
       have hw14_0 := hx14_0
       cases e304
       replace hx14_0 := zx HB hx14_0
       replace hx14_1 := zx HB hx14_1
       have HR304_1 := Aside0.mk hi304_1
       have HC304_1 := Aside0.mk hl14_1
       clear hi304_1 hl14_1
       replace p304 := eq_true p304
       replace q14 := eq_true q14
       refine start_ (n := 10) (S := fun w' => w'.cell? (ad13.add ((x5_1).toNat * 2)) = some (.int .i64 ((rd_T49 l0 x5_1).f0)) ∧ w'.cell? ⟨(ad13.add ((x5_1).toNat * 2)).block, (ad13.add ((x5_1).toNat * 2)).off + 1, none⟩ = some (.slice A13_1 ((rd_T49 l0 x5_1).f1).length c13_1) ∧ w'.cell? (ad14.add ((x5_1).toNat * 2)) = some (.int .i64 ((rd_T49 l1 x5_1).f0)) ∧ w'.cell? ⟨(ad14.add ((x5_1).toNat * 2)).block, (ad14.add ((x5_1).toNat * 2)).off + 1, none⟩ = some (.slice A14_1 ((rd_T49 l1 x5_1).f1).length c14_1)) (ds := []) #[Z, Z, Z, Z, Z, Z, Z, Z, Z, Z] (by kernel_rfl) rfl rfl ⟨((HB.out.cell (World.block_lt_of_cell? w _ hw13_0)).trans hw13_0), ((HB.out.cell (World.block_lt_of_cell? w _ hw13_1)).trans hw13_1), ((HB.out.cell (World.block_lt_of_cell? w _ hw14_0)).trans hw14_0), ((HB.out.cell (World.block_lt_of_cell? w _ hw14_1)).trans hw14_1)⟩ (fun hHeld => ?_); refine with_tabW laws_eqRowS.tab6 laws_eqRowS.bits6 (fun HT_ HW_ => ?_)
       generalize wr.drew = w11 at HB HR303_1 HR304_1 hx13_0 hx13_1 hx14_0 hx14_1 hHeld ⊢
       refine zp 0 17 ?_; refine zp 1 18 ?_; refine zp 2 19 ?_; refine zp 4 21 ?_; refine zp 5 22 ?_; refine zp 6 23 ?_; refine zt 3 20 ?_; refine zt 7 24 ?_
       refine one_ (i := 8) (N := some 25) #[Y, Y, Y, Y, Y, Y, Y, Y, Y, Z] rfl rfl (one_of HT_.out (by kernel_rfl)) (by decide) (fun K hK => ?_)
       refine goes_ Tryd.func48 (by kernel_rfl) rfl #[.agg #[.int .i64 ((rd_T49 l0 x5_1).f0), .slice A13_1 ((rd_T49 l0 x5_1).f1).length c13_1], .agg #[.int .i64 ((rd_T49 l1 x5_1).f0), .slice A14_1 ((rd_T49 l1 x5_1).f1).length c14_1]] (by rfl) rfl rfl zm ?_
       with_reducible refine (laws_eqRow.calls k1 ((rd_T49 l0 x5_1).f0) _ _ ((rd_T49 l0 x5_1).f1) ((rd_T49 l1 x5_1).f0) _ _ ((rd_T49 l1 x5_1).f1) false _ ?side1 ?side2 ?side3 ?side4 A7.out).mono ?_
       (case side1 => exact zc (Kd.C_below HR303_1.out HB.out))
       (case side2 => exact HC303_1.out)
       (case side3 => exact zc (Kd.C_below HR304_1.out HB.out))
       (case side4 => exact HC304_1.out)
       rintro e w12 ⟨rfl, hb⟩
       refine ⟨_, rfl, ?_⟩
       replace HB := Aside0.mk (below_step zb hb)
       (try clear hb)
       (try clear hb2)
       (try clear hk)
       (try clear hi)
       refine hK.out _ _ ⟨((HB.out.cell (World.block_lt_of_cell? w _ hw13_0)).trans hw13_0), ((HB.out.cell (World.block_lt_of_cell? w _ hw13_1)).trans hw13_1), ((HB.out.cell (World.block_lt_of_cell? w _ hw14_0)).trans hw14_0), ((HB.out.cell (World.block_lt_of_cell? w _ hw14_1)).trans hw14_1)⟩ (fun hHeld => ?_)
       clear hK K
       refine norm_ (a' := ?_) ?_ ?_
       rotate_left
       ·show Act.put _ (some 25) _ = _
        simp only [Act.put, List.setIfInBounds_toArray, List.set_cons_zero, List.set_cons_succ, i64_w, i32_w]
        rfl
       refine zp 9 26 ?_
       refine done_ (done_of HT_.out (by kernel_rfl)) ?_
       try go_wp2
       go_ret
       exact ⟨ze, zb⟩
      rw [if_neg c6] at H
      exact absurd H (by simp)
     rw [if_neg c5] at H
     exact absurd H (by simp)
    rw [if_neg c4] at H
    have c4b0 : decide (x5_1 < (l0.length : Int)) = false := decide_eq_false c4
    clear c4
    obtain rfl := Option.some.inj H
    go_wp2
    go_ret
    exact ⟨ze, zb⟩
 rw [if_neg c3] at H
 have c3b0 : ((l0.length : Int) == (l1.length : Int)) = false := beq_eq_false_iff_ne.mpr c3
 have c3b1 : ((l0.length : Int) != (l1.length : Int)) = true := bne_iff_ne.mpr c3
 have c3b2 : (l0.length == l1.length) = false := by first | simpa using c3 | (simp at c3 ⊢; omega)
 obtain rfl := Option.some.inj H
 go_enter Tryd.func20, Tryd.ntmps20
 go_wp2
 go_ret
 exact ⟨ze, zb⟩
set_option maxHeartbeats 8000000 in
set_option maxRecDepth 100000 in
theorem laws_eqEngine.calls (k : Nat) (a0_0 : Int) (a0_1 : Int) (A0_2 : Option Addr) (c0_2 : Nat) (l0_2 : List (S45)) (A0_3 : Option Addr) (c0_3 : Nat) (l0_3 : List (S49)) (a1_0 : Int) (a1_1 : Int) (A1_2 : Option Addr) (c1_2 : Nat) (l1_2 : List (S45)) (A1_3 : Option Addr) (c1_3 : Nat) (l1_3 : List (S49)) (r : Bool) (w : World) (hr0_2 : Kd.C k45 w A0_2 l0_2.length l0_2) (hc0_2 : l0_2.length ≤ c0_2) (hr0_3 : Kd.C k49 w A0_3 l0_3.length l0_3) (hc0_3 : l0_3.length ≤ c0_3) (hr1_2 : Kd.C k45 w A1_2 l1_2.length l1_2) (hc1_2 : l1_2.length ≤ c1_2) (hr1_3 : Kd.C k49 w A1_3 l1_3.length l1_3) (hc1_3 : l1_3.length ≤ c1_3) (h : laws_eqEngine.f k a0_0 a0_1 l0_2 l0_3 a1_0 a1_1 l1_2 l1_3 = some r) :
 Calls Tryd.prog 9 #[.agg #[.int .i64 a0_0, .int .i64 a0_1, .slice A0_2 l0_2.length c0_2, .slice A0_3 l0_3.length c0_3], .agg #[.int .i64 a1_0, .int .i64 a1_1, .slice A1_2 l1_2.length c1_2, .slice A1_3 l1_3.length c1_3]] w fun e w' => e = .returned (.bool r) ∧ Below w.heap.size w w' := by
 have hu33 := Tryd.underlying33
 have HR0_2 := Aside0.mk hr0_2
 have HC0_2 := Aside0.mk hc0_2
 clear hr0_2 hc0_2
 have HR0_3 := Aside0.mk hr0_3
 have HC0_3 := Aside0.mk hc0_3
 clear hr0_3 hc0_3
 have HR1_2 := Aside0.mk hr1_2
 have HC1_2 := Aside0.mk hc1_2
 clear hr1_2 hc1_2
 have HR1_3 := Aside0.mk hr1_3
 have HC1_3 := Aside0.mk hc1_3
 clear hr1_3 hc1_3
 have HB := Aside0.mk (Below.refl w.heap.size w)
 have H : (if a0_0 = a1_0 then (if a0_1 = a1_1 then ((laws_eqTxnS.f k l0_2 l1_2).bind fun t47 => (if t47 = true then ((laws_eqRowS.f k l0_3 l1_3).bind fun t46 => (if t46 = true then (some true) else (some false))) else (some false))) else (some false)) else (some false)) = some r := h
 clear h
 by_cases c3 : a0_0 = a1_0
 ·rw [if_pos c3] at H
  have c3b0 : (a0_0 == a1_0) = true := beq_iff_eq.mpr c3
  have c3b1 : (a0_0 != a1_0) = false := bne_eq_false_iff_eq.mpr c3
  clear c3
  by_cases c4 : a0_1 = a1_1
  ·rw [if_pos c4] at H
   have c4b0 : (a0_1 == a1_1) = true := beq_iff_eq.mpr c4
   have c4b1 : (a0_1 != a1_1) = false := bne_eq_false_iff_eq.mpr c4
   clear c4
   replace H := Option.bind_eq_some_iff.mp H
   obtain ⟨t47, A50, H⟩ := H
   replace H : (if t47 = true then ((laws_eqRowS.f k l0_3 l1_3).bind fun t46 => (if t46 = true then (some true) else (some false))) else (some false)) = some r := H
   have A5 := Aside0.mk A50
   clear A50
   by_cases c6 : t47 = true
   ·subst c6
    have H1 : ((laws_eqRowS.f k l0_3 l1_3).bind fun t46 => (if t46 = true then (some true) else (some false))) = some r := by rw [if_pos rfl] at H; exact H
    clear H
    have H := H1
    clear H1
    replace H := Option.bind_eq_some_iff.mp H
    obtain ⟨t46, A70, H⟩ := H
    replace H : (if t46 = true then (some true) else (some false)) = some r := H
    have A7 := Aside0.mk A70
    clear A70
    by_cases c8 : t46 = true
    ·subst c8
     have H1 : (some true) = some r := by rw [if_pos rfl] at H; exact H
     clear H
     have H := H1
     clear H1
     obtain rfl := Option.some.inj H
     go_enter Tryd.func9, Tryd.ntmps9
     go_wp2_with (first | ((with_reducible refine gate_dst (N := 2) rfl ?_); refine zE 2 33 #[.int .i64 a0_0, .int .i64 a0_1, .slice A0_2 l0_2.length c0_2, .slice A0_3 l0_3.length c0_3] ?_; intro gb43 hg w9 hbox hb; have BK43 := Aside0.mk hbox; have GW43 := Aside0.mk (zh hg : w.heap.size ≤ gb43); have GE43 := GW43; replace HB := Aside0.mk (below_step zb hb); clear hb hbox hg) | ((with_reducible refine gate_dst (N := 3) rfl ?_); refine zE 3 33 #[.int .i64 a1_0, .int .i64 a1_1, .slice A1_2 l1_2.length c1_2, .slice A1_3 l1_3.length c1_3] ?_; intro gb44 hg w10 hbox hb; have BK44 := Aside0.mk hbox; have GW44 := Aside0.mk (zh hg : w.heap.size ≤ gb44); have NB306_307 := zl BK43 hg; have NB307_306 := zL BK43 hg; have GE44 := GW44; replace BK43 := zw BK43 hb; replace HB := Aside0.mk (below_step zb hb); clear hb hbox hg; have hnb11 := NB306_307.out; have hnc11 := NB307_306.out; obtain ⟨z12_0, z12_1, z12_2, z12_3, j12_0, j12_1, j12_2, j12_3⟩ := Go.Proofs.YtldlnafakfigeaaDoor.Lv.blks4 BK43.out; obtain ⟨z13_0, z13_1, z13_2, z13_3, j13_0, j13_1, j13_2, j13_3⟩ := Go.Proofs.YtldlnafakfigeaaDoor.Lv.blks4 BK44.out) | ((with_reducible refine gate_callee (f := 19) rfl ?_); refine zj 19 Tryd.func19 #[.slice A0_2 l0_2.length c0_2, .slice A1_2 l1_2.length c1_2] ?_; (with_reducible refine (laws_eqTxnS.calls k _ _ l0_2 _ _ l1_2 true _ ?side1 ?side2 ?side3 ?side4 A5.out).mono ?_); (case side1 => exact zc (Kd.C_below HR0_2.out HB.out)); (case side2 => exact HC0_2.out); (case side3 => exact zc (Kd.C_below HR1_2.out HB.out)); (case side4 => exact HC1_2.out); rintro e w14 ⟨rfl, hb⟩; refine ⟨_, rfl, ?_⟩; replace BK43 := zw BK43 hb; replace BK44 := zw BK44 hb; replace HB := Aside0.mk (below_step zb hb); (try clear hb); (try clear hb2); (try clear hk); (try clear hi); obtain ⟨z15_0, z15_1, z15_2, z15_3, j15_0, j15_1, j15_2, j15_3⟩ := Go.Proofs.YtldlnafakfigeaaDoor.Lv.blks4 BK43.out; obtain ⟨z16_0, z16_1, z16_2, z16_3, j16_0, j16_1, j16_2, j16_3⟩ := Go.Proofs.YtldlnafakfigeaaDoor.Lv.blks4 BK44.out) | ((with_reducible refine gate_callee (f := 20) rfl ?_); refine zj 25 Tryd.func20 #[.slice A0_3 l0_3.length c0_3, .slice A1_3 l1_3.length c1_3] ?_; (with_reducible refine (laws_eqRowS.calls k _ _ l0_3 _ _ l1_3 true _ ?side1 ?side2 ?side3 ?side4 A7.out).mono ?_); (case side1 => exact zc (Kd.C_below HR0_3.out HB.out)); (case side2 => exact HC0_3.out); (case side3 => exact zc (Kd.C_below HR1_3.out HB.out)); (case side4 => exact HC1_3.out); rintro e w17 ⟨rfl, hb⟩; refine ⟨_, rfl, ?_⟩; replace BK43 := zw BK43 hb; replace BK44 := zw BK44 hb; replace HB := Aside0.mk (below_step zb hb); (try clear hb); (try clear hb2); (try clear hk); (try clear hi)))
     go_ret
     exact ⟨ze, zb⟩
    replace c8 := Bool.eq_false_iff.mpr c8
    subst c8
    have H1 : (some false) = some r := by rw [if_neg (show ¬ (false = true) by decide)] at H; exact H
    clear H
    have H := H1
    clear H1
    obtain rfl := Option.some.inj H
    go_enter Tryd.func9, Tryd.ntmps9
    go_wp2_with (first | ((with_reducible refine gate_dst (N := 2) rfl ?_); refine zE 2 33 #[.int .i64 a0_0, .int .i64 a0_1, .slice A0_2 l0_2.length c0_2, .slice A0_3 l0_3.length c0_3] ?_; intro gb43 hg w18 hbox hb; have BK43 := Aside0.mk hbox; have GW43 := Aside0.mk (zh hg : w.heap.size ≤ gb43); have GE43 := GW43; replace HB := Aside0.mk (below_step zb hb); clear hb hbox hg) | ((with_reducible refine gate_dst (N := 3) rfl ?_); refine zE 3 33 #[.int .i64 a1_0, .int .i64 a1_1, .slice A1_2 l1_2.length c1_2, .slice A1_3 l1_3.length c1_3] ?_; intro gb44 hg w19 hbox hb; have BK44 := Aside0.mk hbox; have GW44 := Aside0.mk (zh hg : w.heap.size ≤ gb44); have NB306_307 := zl BK43 hg; have NB307_306 := zL BK43 hg; have GE44 := GW44; replace BK43 := zw BK43 hb; replace HB := Aside0.mk (below_step zb hb); clear hb hbox hg; have hnb20 := NB306_307.out; have hnc20 := NB307_306.out; obtain ⟨z21_0, z21_1, z21_2, z21_3, j21_0, j21_1, j21_2, j21_3⟩ := Go.Proofs.YtldlnafakfigeaaDoor.Lv.blks4 BK43.out; obtain ⟨z22_0, z22_1, z22_2, z22_3, j22_0, j22_1, j22_2, j22_3⟩ := Go.Proofs.YtldlnafakfigeaaDoor.Lv.blks4 BK44.out) | ((with_reducible refine gate_callee (f := 19) rfl ?_); refine zj 19 Tryd.func19 #[.slice A0_2 l0_2.length c0_2, .slice A1_2 l1_2.length c1_2] ?_; (with_reducible refine (laws_eqTxnS.calls k _ _ l0_2 _ _ l1_2 true _ ?side1 ?side2 ?side3 ?side4 A5.out).mono ?_); (case side1 => exact zc (Kd.C_below HR0_2.out HB.out)); (case side2 => exact HC0_2.out); (case side3 => exact zc (Kd.C_below HR1_2.out HB.out)); (case side4 => exact HC1_2.out); rintro e w23 ⟨rfl, hb⟩; refine ⟨_, rfl, ?_⟩; replace BK43 := zw BK43 hb; replace BK44 := zw BK44 hb; replace HB := Aside0.mk (below_step zb hb); (try clear hb); (try clear hb2); (try clear hk); (try clear hi); obtain ⟨z24_0, z24_1, z24_2, z24_3, j24_0, j24_1, j24_2, j24_3⟩ := Go.Proofs.YtldlnafakfigeaaDoor.Lv.blks4 BK43.out; obtain ⟨z25_0, z25_1, z25_2, z25_3, j25_0, j25_1, j25_2, j25_3⟩ := Go.Proofs.YtldlnafakfigeaaDoor.Lv.blks4 BK44.out) | ((with_reducible refine gate_callee (f := 20) rfl ?_); refine zj 25 Tryd.func20 #[.slice A0_3 l0_3.length c0_3, .slice A1_3 l1_3.length c1_3] ?_; (with_reducible refine (laws_eqRowS.calls k _ _ l0_3 _ _ l1_3 false _ ?side1 ?side2 ?side3 ?side4 A7.out).mono ?_); (case side1 => exact zc (Kd.C_below HR0_3.out HB.out)); (case side2 => exact HC0_3.out); (case side3 => exact zc (Kd.C_below HR1_3.out HB.out)); (case side4 => exact HC1_3.out); rintro e w26 ⟨rfl, hb⟩; refine ⟨_, rfl, ?_⟩; replace BK43 := zw BK43 hb; replace BK44 := zw BK44 hb; replace HB := Aside0.mk (below_step zb hb); (try clear hb); (try clear hb2); (try clear hk); (try clear hi)))
    go_ret
    exact ⟨ze, zb⟩
   replace c6 := Bool.eq_false_iff.mpr c6
   subst c6
   have H1 : (some false) = some r := by rw [if_neg (show ¬ (false = true) by decide)] at H; exact H
   clear H
   have H := H1
   clear H1
   obtain rfl := Option.some.inj H
   go_enter Tryd.func9, Tryd.ntmps9
   go_wp2_with (first | ((with_reducible refine gate_dst (N := 2) rfl ?_); refine zE 2 33 #[.int .i64 a0_0, .int .i64 a0_1, .slice A0_2 l0_2.length c0_2, .slice A0_3 l0_3.length c0_3] ?_; intro gb43 hg w27 hbox hb; have BK43 := Aside0.mk hbox; have GW43 := Aside0.mk (zh hg : w.heap.size ≤ gb43); have GE43 := GW43; replace HB := Aside0.mk (below_step zb hb); clear hb hbox hg) | ((with_reducible refine gate_dst (N := 3) rfl ?_); refine zE 3 33 #[.int .i64 a1_0, .int .i64 a1_1, .slice A1_2 l1_2.length c1_2, .slice A1_3 l1_3.length c1_3] ?_; intro gb44 hg w28 hbox hb; have BK44 := Aside0.mk hbox; have GW44 := Aside0.mk (zh hg : w.heap.size ≤ gb44); have NB306_307 := zl BK43 hg; have NB307_306 := zL BK43 hg; have GE44 := GW44; replace BK43 := zw BK43 hb; replace HB := Aside0.mk (below_step zb hb); clear hb hbox hg; have hnb29 := NB306_307.out; have hnc29 := NB307_306.out; obtain ⟨z30_0, z30_1, z30_2, z30_3, j30_0, j30_1, j30_2, j30_3⟩ := Go.Proofs.YtldlnafakfigeaaDoor.Lv.blks4 BK43.out; obtain ⟨z31_0, z31_1, z31_2, z31_3, j31_0, j31_1, j31_2, j31_3⟩ := Go.Proofs.YtldlnafakfigeaaDoor.Lv.blks4 BK44.out) | ((with_reducible refine gate_callee (f := 19) rfl ?_); refine zj 19 Tryd.func19 #[.slice A0_2 l0_2.length c0_2, .slice A1_2 l1_2.length c1_2] ?_; (with_reducible refine (laws_eqTxnS.calls k _ _ l0_2 _ _ l1_2 false _ ?side1 ?side2 ?side3 ?side4 A5.out).mono ?_); (case side1 => exact zc (Kd.C_below HR0_2.out HB.out)); (case side2 => exact HC0_2.out); (case side3 => exact zc (Kd.C_below HR1_2.out HB.out)); (case side4 => exact HC1_2.out); rintro e w32 ⟨rfl, hb⟩; refine ⟨_, rfl, ?_⟩; replace BK43 := zw BK43 hb; replace BK44 := zw BK44 hb; replace HB := Aside0.mk (below_step zb hb); (try clear hb); (try clear hb2); (try clear hk); (try clear hi)))
   go_ret
   exact ⟨ze, zb⟩
  rw [if_neg c4] at H
  have c4b0 : (a0_1 == a1_1) = false := beq_eq_false_iff_ne.mpr c4
  have c4b1 : (a0_1 != a1_1) = true := bne_iff_ne.mpr c4
  obtain rfl := Option.some.inj H
  go_enter Tryd.func9, Tryd.ntmps9
  go_wp2_with (first | ((with_reducible refine gate_dst (N := 2) rfl ?_); refine zE 2 33 #[.int .i64 a0_0, .int .i64 a0_1, .slice A0_2 l0_2.length c0_2, .slice A0_3 l0_3.length c0_3] ?_; intro gb43 hg w33 hbox hb; have BK43 := Aside0.mk hbox; have GW43 := Aside0.mk (zh hg : w.heap.size ≤ gb43); have GE43 := GW43; replace HB := Aside0.mk (below_step zb hb); clear hb hbox hg) | ((with_reducible refine gate_dst (N := 3) rfl ?_); refine zE 3 33 #[.int .i64 a1_0, .int .i64 a1_1, .slice A1_2 l1_2.length c1_2, .slice A1_3 l1_3.length c1_3] ?_; intro gb44 hg w34 hbox hb; have BK44 := Aside0.mk hbox; have GW44 := Aside0.mk (zh hg : w.heap.size ≤ gb44); have NB306_307 := zl BK43 hg; have NB307_306 := zL BK43 hg; have GE44 := GW44; replace BK43 := zw BK43 hb; replace HB := Aside0.mk (below_step zb hb); clear hb hbox hg; have hnb35 := NB306_307.out; have hnc35 := NB307_306.out; obtain ⟨z36_0, z36_1, z36_2, z36_3, j36_0, j36_1, j36_2, j36_3⟩ := Go.Proofs.YtldlnafakfigeaaDoor.Lv.blks4 BK43.out; obtain ⟨z37_0, z37_1, z37_2, z37_3, j37_0, j37_1, j37_2, j37_3⟩ := Go.Proofs.YtldlnafakfigeaaDoor.Lv.blks4 BK44.out))
  go_ret
  exact ⟨ze, zb⟩
 rw [if_neg c3] at H
 have c3b0 : (a0_0 == a1_0) = false := beq_eq_false_iff_ne.mpr c3
 have c3b1 : (a0_0 != a1_0) = true := bne_iff_ne.mpr c3
 obtain rfl := Option.some.inj H
 go_enter Tryd.func9, Tryd.ntmps9
 go_wp2_with (first | ((with_reducible refine gate_dst (N := 2) rfl ?_); refine zE 2 33 #[.int .i64 a0_0, .int .i64 a0_1, .slice A0_2 l0_2.length c0_2, .slice A0_3 l0_3.length c0_3] ?_; intro gb43 hg w38 hbox hb; have BK43 := Aside0.mk hbox; have GW43 := Aside0.mk (zh hg : w.heap.size ≤ gb43); have GE43 := GW43; replace HB := Aside0.mk (below_step zb hb); clear hb hbox hg) | ((with_reducible refine gate_dst (N := 3) rfl ?_); refine zE 3 33 #[.int .i64 a1_0, .int .i64 a1_1, .slice A1_2 l1_2.length c1_2, .slice A1_3 l1_3.length c1_3] ?_; intro gb44 hg w39 hbox hb; have BK44 := Aside0.mk hbox; have GW44 := Aside0.mk (zh hg : w.heap.size ≤ gb44); have NB306_307 := zl BK43 hg; have NB307_306 := zL BK43 hg; have GE44 := GW44; replace BK43 := zw BK43 hb; replace HB := Aside0.mk (below_step zb hb); clear hb hbox hg; have hnb40 := NB306_307.out; have hnc40 := NB307_306.out; obtain ⟨z41_0, z41_1, z41_2, z41_3, j41_0, j41_1, j41_2, j41_3⟩ := Go.Proofs.YtldlnafakfigeaaDoor.Lv.blks4 BK43.out; obtain ⟨z42_0, z42_1, z42_2, z42_3, j42_0, j42_1, j42_2, j42_3⟩ := Go.Proofs.YtldlnafakfigeaaDoor.Lv.blks4 BK44.out))
 go_ret
 exact ⟨ze, zb⟩
set_option maxHeartbeats 8000000 in
set_option maxRecDepth 100000 in
theorem laws_FnExactTextOf.calls (k : Nat) (a0_0 : Int) (a0_1 : Int) (A0_2 : Option Addr) (c0_2 : Nat) (l0_2 : List (S61)) (A0_3 : Option Addr) (c0_3 : Nat) (l0_3 : List (S65)) (w : World) (hr0_2 : Kd.C k61 w A0_2 l0_2.length l0_2) (hc0_2 : l0_2.length ≤ c0_2) (hr0_3 : Kd.C k65 w A0_3 l0_3.length l0_3) (hc0_3 : l0_3.length ≤ c0_3) (h : laws_FnExactTextOf.f k a0_0 a0_1 l0_2 l0_3 = some true) (HTAB : Aside0 (TabAll w) := by exact TabAll.on HTAB (by repeat (first | (with_reducible first | exact HB.out | apply below_alloc | apply pw_below_drewN | apply below_drew1 | refine below_set ?_ (Aside0.out (by assumption))) | exact HB.out))) :
 Calls Tryd.prog 3 #[.agg #[.int .i64 a0_0, .int .i64 a0_1, .slice A0_2 l0_2.length c0_2, .slice A0_3 l0_3.length c0_3]] w fun e w' => e = .returned (.bool true) ∧ Below w.heap.size w w' := by
 have hu25 := Tryd.underlying25
 have hu28 := Tryd.underlying28
 have hu33 := Tryd.underlying33
 have HR0_2 := Aside0.mk hr0_2
 have HC0_2 := Aside0.mk hc0_2
 clear hr0_2 hc0_2
 have HR0_3 := Aside0.mk hr0_3
 have HC0_3 := Aside0.mk hc0_3
 clear hr0_3 hc0_3
 have HB := Aside0.mk (Below.refl w.heap.size w)
 have H : ((laws_szEngine.f k a0_0 a0_1 l0_2 l0_3 1048576).bind fun t73 => (if t73 < 0 then (some true) else ((laws_toEngine.f k a0_0 a0_1 l0_2 l0_3).bind fun bt69 => ((spec_TextOf.f k bt69.1 bt69.2.1 bt69.2.2.1 bt69.2.2.2).bind fun bt57 => ((laws_toEngine.f k a0_0 a0_1 l0_2 l0_3).bind fun bt52 => ((impl_TextOf.f k bt52.1 bt52.2.1 bt52.2.2.1 bt52.2.2.2).bind fun bt60 => ((laws_eqTextResult.f bt60.1 bt60.2 bt57.1 bt57.2).bind fun t71 => (if t71 = true then ((laws_toEngine.f k a0_0 a0_1 l0_2 l0_3).bind fun bt54 => ((laws_eqEngine.f k bt52.1 bt52.2.1 bt52.2.2.1 bt52.2.2.2 bt54.1 bt54.2.1 bt54.2.2.1 bt54.2.2.2).bind fun t68 => (if t68 = true then (some true) else (some false)))) else (some false))))))))) = some true := h
 clear h
 replace H := Option.bind_eq_some_iff.mp H
 obtain ⟨t73, A20, H⟩ := H
 replace H : (if t73 < 0 then (some true) else ((laws_toEngine.f k a0_0 a0_1 l0_2 l0_3).bind fun bt69 => ((spec_TextOf.f k bt69.1 bt69.2.1 bt69.2.2.1 bt69.2.2.2).bind fun bt57 => ((laws_toEngine.f k a0_0 a0_1 l0_2 l0_3).bind fun bt52 => ((impl_TextOf.f k bt52.1 bt52.2.1 bt52.2.2.1 bt52.2.2.2).bind fun bt60 => ((laws_eqTextResult.f bt60.1 bt60.2 bt57.1 bt57.2).bind fun t71 => (if t71 = true then ((laws_toEngine.f k a0_0 a0_1 l0_2 l0_3).bind fun bt54 => ((laws_eqEngine.f k bt52.1 bt52.2.1 bt52.2.2.1 bt52.2.2.2 bt54.1 bt54.2.1 bt54.2.2.1 bt54.2.2.2).bind fun t68 => (if t68 = true then (some true) else (some false)))) else (some false)))))))) = some true := H
 have A2 := Aside0.mk A20
 clear A20
 by_cases c3 : t73 < 0
 ·rw [if_pos c3] at H
  have c3b0 : decide (t73 < 0) = true := decide_eq_true c3
  clear c3
  go_enter Tryd.func3, Tryd.ntmps3
  go_wp2_with (first | ((with_reducible refine gate_dst (N := 1) rfl ?_); refine zE 1 25 #[.int .i64 a0_0, .int .i64 a0_1, .slice A0_2 l0_2.length c0_2, .slice A0_3 l0_3.length c0_3] ?_; intro gb48 hg w4 hbox hb; have BK48 := Aside0.mk hbox; have GW48 := Aside0.mk (zh hg : w.heap.size ≤ gb48); have GE48 := GW48; replace HB := Aside0.mk (below_step zb hb); clear hb hbox hg; obtain ⟨z5_0, z5_1, z5_2, z5_3, j5_0, j5_1, j5_2, j5_3⟩ := Go.Proofs.YtldlnafakfigeaaDoor.Lv.blks4 BK48.out) | ((with_reducible refine gate_callee (f := 4) rfl ?_); refine zj 9 Tryd.func4 #[.agg #[.int .i64 a0_0, .int .i64 a0_1, .slice A0_2 l0_2.length c0_2, .slice A0_3 l0_3.length c0_3], .int .i64 1048576] ?_; (with_reducible refine (laws_szEngine.calls k a0_0 a0_1 _ _ l0_2 _ _ l0_3 1048576 t73 _ ?side1 ?side2 ?side3 ?side4 A2.out).mono ?_); (case side1 => exact zc (Kd.C_below HR0_2.out HB.out)); (case side2 => exact HC0_2.out); (case side3 => exact zc (Kd.C_below HR0_3.out HB.out)); (case side4 => exact HC0_3.out); rintro e w6 ⟨rfl, hb⟩; refine ⟨_, rfl, ?_⟩; replace BK48 := zw BK48 hb; replace HB := Aside0.mk (below_step zb hb); (try clear hb); (try clear hb2); (try clear hk); (try clear hi)))
  go_ret
  exact ⟨ze, zb⟩
 rw [if_neg c3] at H
 have c3b0 : decide (t73 < 0) = false := decide_eq_false c3
 clear c3
 replace H := Option.bind_eq_some_iff.mp H
 obtain ⟨⟨t69, t78, t76, t77⟩, A70, H⟩ := H
 replace H : ((spec_TextOf.f k t69 t78 t76 t77).bind fun bt57 => ((laws_toEngine.f k a0_0 a0_1 l0_2 l0_3).bind fun bt52 => ((impl_TextOf.f k bt52.1 bt52.2.1 bt52.2.2.1 bt52.2.2.2).bind fun bt60 => ((laws_eqTextResult.f bt60.1 bt60.2 bt57.1 bt57.2).bind fun t71 => (if t71 = true then ((laws_toEngine.f k a0_0 a0_1 l0_2 l0_3).bind fun bt54 => ((laws_eqEngine.f k bt52.1 bt52.2.1 bt52.2.2.1 bt52.2.2.2 bt54.1 bt54.2.1 bt54.2.2.1 bt54.2.2.2).bind fun t68 => (if t68 = true then (some true) else (some false)))) else (some false)))))) = some true := H
 have A7 := Aside0.mk A70
 clear A70
 replace H := Option.bind_eq_some_iff.mp H
 obtain ⟨⟨t57, t67⟩, A80, H⟩ := H
 replace H : ((laws_toEngine.f k a0_0 a0_1 l0_2 l0_3).bind fun bt52 => ((impl_TextOf.f k bt52.1 bt52.2.1 bt52.2.2.1 bt52.2.2.2).bind fun bt60 => ((laws_eqTextResult.f bt60.1 bt60.2 t57 t67).bind fun t71 => (if t71 = true then ((laws_toEngine.f k a0_0 a0_1 l0_2 l0_3).bind fun bt54 => ((laws_eqEngine.f k bt52.1 bt52.2.1 bt52.2.2.1 bt52.2.2.2 bt54.1 bt54.2.1 bt54.2.2.1 bt54.2.2.2).bind fun t68 => (if t68 = true then (some true) else (some false)))) else (some false))))) = some true := H
 have A8 := Aside0.mk A80
 clear A80
 replace H := Option.bind_eq_some_iff.mp H
 obtain ⟨⟨t52, t62, t63, t66⟩, A90, H⟩ := H
 replace H : ((impl_TextOf.f k t52 t62 t63 t66).bind fun bt60 => ((laws_eqTextResult.f bt60.1 bt60.2 t57 t67).bind fun t71 => (if t71 = true then ((laws_toEngine.f k a0_0 a0_1 l0_2 l0_3).bind fun bt54 => ((laws_eqEngine.f k t52 t62 t63 t66 bt54.1 bt54.2.1 bt54.2.2.1 bt54.2.2.2).bind fun t68 => (if t68 = true then (some true) else (some false)))) else (some false)))) = some true := H
 have A9 := Aside0.mk A90
 clear A90
 replace H := Option.bind_eq_some_iff.mp H
 obtain ⟨⟨t60, t72⟩, A83, H⟩ := H
 replace H : ((laws_eqTextResult.f t60 t72 t57 t67).bind fun t71 => (if t71 = true then ((laws_toEngine.f k a0_0 a0_1 l0_2 l0_3).bind fun bt54 => ((laws_eqEngine.f k t52 t62 t63 t66 bt54.1 bt54.2.1 bt54.2.2.1 bt54.2.2.2).bind fun t68 => (if t68 = true then (some true) else (some false)))) else (some false))) = some true := H
 have A10 := Aside0.mk A83
 clear A83
 replace H := Option.bind_eq_some_iff.mp H
 obtain ⟨t71, A84, H⟩ := H
 replace H : (if t71 = true then ((laws_toEngine.f k a0_0 a0_1 l0_2 l0_3).bind fun bt54 => ((laws_eqEngine.f k t52 t62 t63 t66 bt54.1 bt54.2.1 bt54.2.2.1 bt54.2.2.2).bind fun t68 => (if t68 = true then (some true) else (some false)))) else (some false)) = some true := H
 have A11 := Aside0.mk A84
 clear A84
 by_cases c12 : t71 = true
 ·subst c12
  have H1 : ((laws_toEngine.f k a0_0 a0_1 l0_2 l0_3).bind fun bt54 => ((laws_eqEngine.f k t52 t62 t63 t66 bt54.1 bt54.2.1 bt54.2.2.1 bt54.2.2.2).bind fun t68 => (if t68 = true then (some true) else (some false)))) = some true := by rw [if_pos rfl] at H; first | done | exact H
  clear H
  have H := H1
  clear H1
  replace H := Option.bind_eq_some_iff.mp H
  obtain ⟨⟨t54, t79, t81, t82⟩, A85, H⟩ := H
  replace H : ((laws_eqEngine.f k t52 t62 t63 t66 t54 t79 t81 t82).bind fun t68 => (if t68 = true then (some true) else (some false))) = some true := H
  have A13 := Aside0.mk A85
  clear A85
  replace H := Option.bind_eq_some_iff.mp H
  obtain ⟨t68, A86, H⟩ := H
  replace H : (if t68 = true then (some true) else (some false)) = some true := H
  have A14 := Aside0.mk A86
  clear A86
  by_cases c15 : t68 = true
  ·subst c15
   have H1 : (some true) = some true := by rw [if_pos rfl] at H; first | done | exact H
   clear H
   have H := H1
   clear H1
   go_enter Tryd.func3, Tryd.ntmps3
   try go_wp2_with (first | ((with_reducible refine gate_dst (N := 1) rfl ?_); refine zE 1 25 #[.int .i64 a0_0, .int .i64 a0_1, .slice A0_2 l0_2.length c0_2, .slice A0_3 l0_3.length c0_3] ?_; intro gb48 hg w16 hbox hb; have BK48 := Aside0.mk hbox; have GW48 := Aside0.mk (zh hg : w.heap.size ≤ gb48); have GE48 := GW48; replace HB := Aside0.mk (below_step zb hb); clear hb hbox hg; obtain ⟨z17_0, z17_1, z17_2, z17_3, j17_0, j17_1, j17_2, j17_3⟩ := Go.Proofs.YtldlnafakfigeaaDoor.Lv.blks4 BK48.out) | ((with_reducible refine gate_callee (f := 4) rfl ?_); refine zj 9 Tryd.func4 #[.agg #[.int .i64 a0_0, .int .i64 a0_1, .slice A0_2 l0_2.length c0_2, .slice A0_3 l0_3.length c0_3], .int .i64 1048576] ?_; (with_reducible refine (laws_szEngine.calls k a0_0 a0_1 _ _ l0_2 _ _ l0_3 1048576 t73 _ ?side1 ?side2 ?side3 ?side4 A2.out).mono ?_); (case side1 => exact zc (Kd.C_below HR0_2.out HB.out)); (case side2 => exact HC0_2.out); (case side3 => exact zc (Kd.C_below HR0_3.out HB.out)); (case side4 => exact HC0_3.out); rintro e w18 ⟨rfl, hb⟩; refine ⟨_, rfl, ?_⟩; replace BK48 := zw BK48 hb; replace HB := Aside0.mk (below_step zb hb); (try clear hb); (try clear hb2); (try clear hk); (try clear hi); obtain ⟨z19_0, z19_1, z19_2, z19_3, j19_0, j19_1, j19_2, j19_3⟩ := Go.Proofs.YtldlnafakfigeaaDoor.Lv.blks4 BK48.out) | ((with_reducible refine gate_callee (f := 6) rfl ?_); refine zj 13 Tryd.func6 #[.agg #[.int .i64 a0_0, .int .i64 a0_1, .slice A0_2 l0_2.length c0_2, .slice A0_3 l0_3.length c0_3]] ?_; (with_reducible refine (laws_toEngine.calls k a0_0 a0_1 _ _ l0_2 _ _ l0_3 t69 t78 t76 t77 _ ?side1 ?side2 ?side3 ?side4 A7.out).mono ?_); (case side1 => exact zc (Kd.C_below HR0_2.out HB.out)); (case side2 => exact HC0_2.out); (case side3 => exact zc (Kd.C_below HR0_3.out HB.out)); (case side4 => exact HC0_3.out); rintro e w20 ⟨v87, v88, rfl, ho0, ho1, hb⟩; refine ⟨_, rfl, ?_⟩; have HO55 := Aside0.mk (Kd.S_lower ho0 (below_size zb)); have HO56 := Aside0.mk (Kd.S_lower ho1 (below_size zb)); replace BK48 := zw BK48 hb; replace HB := Aside0.mk (below_step zb hb); (try clear hb); (try clear hb2); (try clear hk); (try clear hi); (try clear ho0); (try clear ho1); obtain ⟨Ao21, co21, eo21⟩ := Kd.S_slice HO55.out; subst eo21; obtain ⟨Ao22, co22, eo22⟩ := Kd.S_slice HO56.out; subst eo22) | ((with_reducible refine gate_callee (f := 5) rfl ?_); refine zj 14 Tryd.func5 #[.agg #[.int .i64 t69, .int .i64 t78, .slice Ao21 t76.length co21, .slice Ao22 t77.length co22]] ?_; (with_reducible refine (spec_TextOf.calls k t69 t78 _ _ t76 _ _ t77 t57 t67 _ ?side1 ?side2 ?side3 ?side4 A8.out).mono ?_); (case side1 => exact zc (Kd.S_reads' HO55.out).2.2); (case side2 => exact (Kd.S_reads' HO55.out).2.1); (case side3 => exact zc (Kd.S_reads' HO56.out).2.2); (case side4 => exact (Kd.S_reads' HO56.out).2.1); rintro e w23 ⟨rfl, hb⟩; refine ⟨_, rfl, ?_⟩; replace HO55 := Aside0.mk (Kd.S_below (by (with_reducible repeat (first | apply Kd.S_alloc | apply Kd.S_drewN | apply Kd.S_drew)); exact HO55.out) hb); replace HO56 := Aside0.mk (Kd.S_below (by (with_reducible repeat (first | apply Kd.S_alloc | apply Kd.S_drewN | apply Kd.S_drew)); exact HO56.out) hb); replace BK48 := zw BK48 hb; replace HB := Aside0.mk (below_step zb hb); (try clear hb); (try clear hb2); (try clear hk); (try clear hi)) | ((with_reducible refine gate_dst (N := 4) rfl ?_); refine zE 4 28 #[.int .i64 0, .string (⟨#[]⟩ : ByteArray)] ?_; intro gb51 hg w24 hbox hb; have BK51 := Aside0.mk hbox; have GW51 := Aside0.mk (zh hg : w.heap.size ≤ gb51); have NB310_322 := zl BK48 hg; have NB322_310 := zL BK48 hg; have GE51 := GW51; replace HO55 := Aside0.mk (Kd.S_below (by (with_reducible repeat (first | apply Kd.S_alloc | apply Kd.S_drewN | apply Kd.S_drew)); exact HO55.out) hb); replace HO56 := Aside0.mk (Kd.S_below (by (with_reducible repeat (first | apply Kd.S_alloc | apply Kd.S_drewN | apply Kd.S_drew)); exact HO56.out) hb); replace BK48 := zw BK48 hb; replace HB := Aside0.mk (below_step zb hb); clear hb hbox hg; have hnb25 := NB322_310.out; have hnc25 := NB310_322.out; obtain ⟨z26_0, z26_1, j26_0, j26_1⟩ := Go.Proofs.YtldlnafakfigeaaDoor.Lv.blks2 BK51.out; obtain ⟨z27_0, z27_1, z27_2, z27_3, j27_0, j27_1, j27_2, j27_3⟩ := Go.Proofs.YtldlnafakfigeaaDoor.Lv.blks4 BK48.out) | ((with_reducible refine gate_callee (f := 6) rfl ?_); refine zj 16 Tryd.func6 #[.agg #[.int .i64 a0_0, .int .i64 a0_1, .slice A0_2 l0_2.length c0_2, .slice A0_3 l0_3.length c0_3]] ?_; (with_reducible refine (laws_toEngine.calls k a0_0 a0_1 _ _ l0_2 _ _ l0_3 t52 t62 t63 t66 _ ?side1 ?side2 ?side3 ?side4 A9.out).mono ?_); (case side1 => exact Kd.C_below HR0_2.out zb); (case side2 => exact HC0_2.out); (case side3 => exact Kd.C_below HR0_3.out zb); (case side4 => exact HC0_3.out); rintro e w28 ⟨v89, v91, rfl, ho0, ho1, hb⟩; refine ⟨_, rfl, ?_⟩; have n0_ := Aside0.mk (Kd.S_elder' (by (with_reducible repeat (first | apply Kd.S_alloc | apply Kd.S_drewN | apply Kd.S_drew)); exact (Kd.S_mono (Kd.S_far (p := ⟨gb51, 1, none⟩) (Kd.S_far (p := ⟨gb51, 0, none⟩) (Kd.S_types HO55.out BK51.out (by decide)) (fun _ hk => hk.2) (.int .i64 t57)) (fun _ hk => hk.2) (.string t67)) (fun _ h_ => h_.1))) (Kd.S_base ho0) hb); have n1_ := Aside0.mk (Kd.S_elder' (by (with_reducible repeat (first | apply Kd.S_alloc | apply Kd.S_drewN | apply Kd.S_drew)); exact (Kd.S_mono (Kd.S_far (p := ⟨gb51, 1, none⟩) (Kd.S_far (p := ⟨gb51, 0, none⟩) (Kd.S_types HO56.out BK51.out (by decide)) (fun _ hk => hk.2) (.int .i64 t57)) (fun _ hk => hk.2) (.string t67)) (fun _ h_ => h_.1))) (Kd.S_base ho1) hb); have n2_ := Aside0.mk (Kd.S_lower (Kd.S_new' ho0 (Kd.S_lt (by (with_reducible repeat (first | apply Kd.S_alloc | apply Kd.S_drewN | apply Kd.S_drew)); exact (Kd.S_mono (Kd.S_far (p := ⟨gb51, 1, none⟩) (Kd.S_far (p := ⟨gb51, 0, none⟩) (Kd.S_types HO55.out BK51.out (by decide)) (fun _ hk => hk.2) (.int .i64 t57)) (fun _ hk => hk.2) (.string t67)) (fun _ h_ => h_.1))))) (below_size zb)); have n3_ := Aside0.mk (Kd.S_lower (Kd.S_new' ho1 (Kd.S_lt (by (with_reducible repeat (first | apply Kd.S_alloc | apply Kd.S_drewN | apply Kd.S_drew)); exact (Kd.S_mono (Kd.S_far (p := ⟨gb51, 1, none⟩) (Kd.S_far (p := ⟨gb51, 0, none⟩) (Kd.S_types HO56.out BK51.out (by decide)) (fun _ hk => hk.2) (.int .i64 t57)) (fun _ hk => hk.2) (.string t67)) (fun _ h_ => h_.1))))) (below_size zb)); have n4_ := Aside0.mk (blk_below (g := gb48) (o := .cells #[.int .i64 a0_0, .int .i64 a0_1, .slice A0_2 l0_2.length c0_2, .slice A0_3 l0_3.length c0_3] 25 (0, 0)) (by refine zQ ?_; refine blk_far ?_ NB310_322.out _; refine zQ ?_; refine blk_far ?_ NB310_322.out _; refine zQ ?_; exact BK48.out) hb); have n5_ := Aside0.mk (blk_below (g := gb51) (o := .cells #[.int .i64 t57, .string t67] 28 (0, 0)) (by refine zQ ?_; refine blk_put (cs := #[.int .i64 t57, .string (⟨#[]⟩ : ByteArray)]) ?_ 1 _ rfl; refine zQ ?_; refine blk_put (cs := #[.int .i64 0, .string (⟨#[]⟩ : ByteArray)]) ?_ 0 _ rfl; refine zQ ?_; exact BK51.out) hb); have n6_ := Aside0.mk (below_step zb hb); clear HO55; clear HO56; clear BK48; clear BK51; clear HB; have HO55 := n0_; have HO56 := n1_; have HO58 := n2_; have HO59 := n3_; have BK48 := n4_; have BK51 := n5_; have HB := n6_; clear n0_ n1_ n2_ n3_ n4_ n5_ n6_; (try clear hb); (try clear hb2); (try clear hk); (try clear hi); (try clear ho0); (try clear ho1)) | ((with_reducible refine gate_dst (N := 5) rfl ?_); refine zE 5 33 #[.int .i64 0, .int .i64 0, .slice none 0 0, .slice none 0 0] ?_; intro gb50 hg w29 hbox hb; have BK50 := Aside0.mk hbox; have GW50 := Aside0.mk (zh hg : w.heap.size ≤ gb50); have NB310_331 := zl BK48 hg; have NB331_310 := zL BK48 hg; have NB322_331 := zl BK51 hg; have NB331_322 := zL BK51 hg; have GE50 := GW50; replace HO55 := Aside0.mk (Kd.S_below (by (with_reducible repeat (first | apply Kd.S_alloc | apply Kd.S_drewN | apply Kd.S_drew)); exact HO55.out) hb); replace HO56 := Aside0.mk (Kd.S_below (by (with_reducible repeat (first | apply Kd.S_alloc | apply Kd.S_drewN | apply Kd.S_drew)); exact HO56.out) hb); replace HO58 := Aside0.mk (Kd.S_below (by (with_reducible repeat (first | apply Kd.S_alloc | apply Kd.S_drewN | apply Kd.S_drew)); exact HO58.out) hb); replace HO59 := Aside0.mk (Kd.S_below (by (with_reducible repeat (first | apply Kd.S_alloc | apply Kd.S_drewN | apply Kd.S_drew)); exact HO59.out) hb); replace BK48 := zw BK48 hb; replace BK51 := zw BK51 hb; replace HB := Aside0.mk (below_step zb hb); clear hb hbox hg; have hnb30 := NB331_310.out; have hnc30 := NB310_331.out; have hnb31 := NB331_322.out; have hnc31 := NB322_331.out; obtain ⟨z32_0, z32_1, z32_2, z32_3, j32_0, j32_1, j32_2, j32_3⟩ := Go.Proofs.YtldlnafakfigeaaDoor.Lv.blks4 BK50.out; obtain ⟨Ao33, co33, eo33⟩ := Kd.S_slice HO58.out; subst eo33; obtain ⟨Ao34, co34, eo34⟩ := Kd.S_slice HO59.out; subst eo34) | ((with_reducible refine gate_callee (f := 7) rfl ?_); refine zj 18 Tryd.func7 #[.agg #[.int .i64 t52, .int .i64 t62, .slice Ao33 t63.length co33, .slice Ao34 t66.length co34]] ?_; (with_reducible refine (impl_TextOf.calls k t52 t62 _ _ t63 _ _ t66 t60 t72 _ ?side1 ?side2 ?side3 ?side4 A10.out).mono ?_); (case side1 => refine (Kd.S_reads' (e := 45) (base := w.heap.size) (ok := fun k_ => (True ∧ some k_ ≠ (.slice Ao21 t76.length co21 : Value).ownBlock)) (n := t63.length) (c := co33) ?_).2.2; exact (by (with_reducible repeat (first | apply Kd.S_alloc | apply Kd.S_drewN | apply Kd.S_drew)); exact (Kd.S_mono (Kd.S_far (p := ⟨gb50, 3, none⟩) (Kd.S_far (p := ⟨gb50, 2, none⟩) (Kd.S_far (p := ⟨gb50, 1, none⟩) (Kd.S_far (p := ⟨gb50, 0, none⟩) (Kd.S_types HO58.out BK50.out (by decide)) (fun _ hk => hk.2) (.int .i64 t52)) (fun _ hk => hk.2) (.int .i64 t62)) (fun _ hk => hk.2) (.slice Ao33 t63.length co33)) (fun _ hk => hk.2) (.slice Ao34 t66.length co34)) (fun _ h_ => h_.1)))); (case side2 => exact (Kd.S_reads' HO58.out).2.1); (case side3 => refine (Kd.S_reads' (e := 49) (base := w.heap.size) (ok := fun k_ => (True ∧ some k_ ≠ (.slice Ao22 t77.length co22 : Value).ownBlock)) (n := t66.length) (c := co34) ?_).2.2; exact (by (with_reducible repeat (first | apply Kd.S_alloc | apply Kd.S_drewN | apply Kd.S_drew)); exact (Kd.S_mono (Kd.S_far (p := ⟨gb50, 3, none⟩) (Kd.S_far (p := ⟨gb50, 2, none⟩) (Kd.S_far (p := ⟨gb50, 1, none⟩) (Kd.S_far (p := ⟨gb50, 0, none⟩) (Kd.S_types HO59.out BK50.out (by decide)) (fun _ hk => hk.2) (.int .i64 t52)) (fun _ hk => hk.2) (.int .i64 t62)) (fun _ hk => hk.2) (.slice Ao33 t63.length co33)) (fun _ hk => hk.2) (.slice Ao34 t66.length co34)) (fun _ h_ => h_.1)))); (case side4 => exact (Kd.S_reads' HO59.out).2.1); rintro e w35 ⟨rfl, hb⟩; refine ⟨_, rfl, ?_⟩; have n0_ := Aside0.mk (Kd.S_below (by (with_reducible repeat (first | apply Kd.S_alloc | apply Kd.S_drewN | apply Kd.S_drew)); exact (Kd.S_mono (Kd.S_far (p := ⟨gb50, 3, none⟩) (Kd.S_far (p := ⟨gb50, 2, none⟩) (Kd.S_far (p := ⟨gb50, 1, none⟩) (Kd.S_far (p := ⟨gb50, 0, none⟩) (Kd.S_types HO55.out BK50.out (by decide)) (fun _ hk => hk.2) (.int .i64 t52)) (fun _ hk => hk.2) (.int .i64 t62)) (fun _ hk => hk.2) (.slice Ao33 t63.length co33)) (fun _ hk => hk.2) (.slice Ao34 t66.length co34)) (fun _ h_ => h_.1))) hb); have n1_ := Aside0.mk (Kd.S_below (by (with_reducible repeat (first | apply Kd.S_alloc | apply Kd.S_drewN | apply Kd.S_drew)); exact (Kd.S_mono (Kd.S_far (p := ⟨gb50, 3, none⟩) (Kd.S_far (p := ⟨gb50, 2, none⟩) (Kd.S_far (p := ⟨gb50, 1, none⟩) (Kd.S_far (p := ⟨gb50, 0, none⟩) (Kd.S_types HO56.out BK50.out (by decide)) (fun _ hk => hk.2) (.int .i64 t52)) (fun _ hk => hk.2) (.int .i64 t62)) (fun _ hk => hk.2) (.slice Ao33 t63.length co33)) (fun _ hk => hk.2) (.slice Ao34 t66.length co34)) (fun _ h_ => h_.1))) hb); have n2_ := Aside0.mk (Kd.S_below (by (with_reducible repeat (first | apply Kd.S_alloc | apply Kd.S_drewN | apply Kd.S_drew)); exact (Kd.S_mono (Kd.S_far (p := ⟨gb50, 3, none⟩) (Kd.S_far (p := ⟨gb50, 2, none⟩) (Kd.S_far (p := ⟨gb50, 1, none⟩) (Kd.S_far (p := ⟨gb50, 0, none⟩) (Kd.S_types HO58.out BK50.out (by decide)) (fun _ hk => hk.2) (.int .i64 t52)) (fun _ hk => hk.2) (.int .i64 t62)) (fun _ hk => hk.2) (.slice Ao33 t63.length co33)) (fun _ hk => hk.2) (.slice Ao34 t66.length co34)) (fun _ h_ => h_.1))) hb); have n3_ := Aside0.mk (Kd.S_below (by (with_reducible repeat (first | apply Kd.S_alloc | apply Kd.S_drewN | apply Kd.S_drew)); exact (Kd.S_mono (Kd.S_far (p := ⟨gb50, 3, none⟩) (Kd.S_far (p := ⟨gb50, 2, none⟩) (Kd.S_far (p := ⟨gb50, 1, none⟩) (Kd.S_far (p := ⟨gb50, 0, none⟩) (Kd.S_types HO59.out BK50.out (by decide)) (fun _ hk => hk.2) (.int .i64 t52)) (fun _ hk => hk.2) (.int .i64 t62)) (fun _ hk => hk.2) (.slice Ao33 t63.length co33)) (fun _ hk => hk.2) (.slice Ao34 t66.length co34)) (fun _ h_ => h_.1))) hb); have n4_ := Aside0.mk (blk_below (g := gb48) (o := .cells #[.int .i64 a0_0, .int .i64 a0_1, .slice A0_2 l0_2.length c0_2, .slice A0_3 l0_3.length c0_3] 25 (0, 0)) (by refine zQ ?_; refine blk_far ?_ NB310_331.out _; refine zQ ?_; refine blk_far ?_ NB310_331.out _; refine zQ ?_; refine blk_far ?_ NB310_331.out _; refine zQ ?_; refine blk_far ?_ NB310_331.out _; refine zQ ?_; exact BK48.out) hb); have n5_ := Aside0.mk (blk_below (g := gb51) (o := .cells #[.int .i64 t57, .string t67] 28 (0, 0)) (by refine zQ ?_; refine blk_far ?_ NB322_331.out _; refine zQ ?_; refine blk_far ?_ NB322_331.out _; refine zQ ?_; refine blk_far ?_ NB322_331.out _; refine zQ ?_; refine blk_far ?_ NB322_331.out _; refine zQ ?_; exact BK51.out) hb); have n6_ := Aside0.mk (blk_below (g := gb50) (o := .cells #[.int .i64 t52, .int .i64 t62, .slice Ao33 t63.length co33, .slice Ao34 t66.length co34] 33 (0, 0)) (by refine zQ ?_; refine blk_put (cs := #[.int .i64 t52, .int .i64 t62, .slice Ao33 t63.length co33, .slice none 0 0]) ?_ 3 _ rfl; refine zQ ?_; refine blk_put (cs := #[.int .i64 t52, .int .i64 t62, .slice none 0 0, .slice none 0 0]) ?_ 2 _ rfl; refine zQ ?_; refine blk_put (cs := #[.int .i64 t52, .int .i64 0, .slice none 0 0, .slice none 0 0]) ?_ 1 _ rfl; refine zQ ?_; refine blk_put (cs := #[.int .i64 0, .int .i64 0, .slice none 0 0, .slice none 0 0]) ?_ 0 _ rfl; refine zQ ?_; exact BK50.out) hb); have n7_ := Aside0.mk (below_step zb hb); clear HO55; clear HO56; clear HO58; clear HO59; clear BK48; clear BK51; clear BK50; clear HB; have HO55 := n0_; have HO56 := n1_; have HO58 := n2_; have HO59 := n3_; have BK48 := n4_; have BK51 := n5_; have BK50 := n6_; have HB := n7_; clear n0_ n1_ n2_ n3_ n4_ n5_ n6_ n7_; (try clear hb); (try clear hb2); (try clear hk); (try clear hi)) | ((with_reducible refine gate_dst (N := 6) rfl ?_); refine zE 6 28 #[.int .i64 0, .string (⟨#[]⟩ : ByteArray)] ?_; intro gb53 hg w36 hbox hb; have BK53 := Aside0.mk hbox; have GW53 := Aside0.mk (zh hg : w.heap.size ≤ gb53); have NB310_334 := zl BK48 hg; have NB334_310 := zL BK48 hg; have NB322_334 := zl BK51 hg; have NB334_322 := zL BK51 hg; have NB331_334 := zl BK50 hg; have NB334_331 := zL BK50 hg; have GE53 := GW53; replace HO55 := Aside0.mk (Kd.S_below (by (with_reducible repeat (first | apply Kd.S_alloc | apply Kd.S_drewN | apply Kd.S_drew)); exact HO55.out) hb); replace HO56 := Aside0.mk (Kd.S_below (by (with_reducible repeat (first | apply Kd.S_alloc | apply Kd.S_drewN | apply Kd.S_drew)); exact HO56.out) hb); replace HO58 := Aside0.mk (Kd.S_below (by (with_reducible repeat (first | apply Kd.S_alloc | apply Kd.S_drewN | apply Kd.S_drew)); exact HO58.out) hb); replace HO59 := Aside0.mk (Kd.S_below (by (with_reducible repeat (first | apply Kd.S_alloc | apply Kd.S_drewN | apply Kd.S_drew)); exact HO59.out) hb); replace BK48 := zw BK48 hb; replace BK51 := zw BK51 hb; replace BK50 := zw BK50 hb; replace HB := Aside0.mk (below_step zb hb); clear hb hbox hg; have hnb37 := NB334_310.out; have hnc37 := NB310_334.out; have hnb38 := NB334_322.out; have hnc38 := NB322_334.out; have hnb39 := NB334_331.out; have hnc39 := NB331_334.out; obtain ⟨z40_0, z40_1, j40_0, j40_1⟩ := Go.Proofs.YtldlnafakfigeaaDoor.Lv.blks2 BK53.out; obtain ⟨z41_0, z41_1, j41_0, j41_1⟩ := Go.Proofs.YtldlnafakfigeaaDoor.Lv.blks2 BK51.out) | ((with_reducible refine gate_callee (f := 8) rfl ?_); refine zj 21 Tryd.func8 #[.agg #[.int .i64 t60, .string t72], .agg #[.int .i64 t57, .string t67]] ?_; (with_reducible refine (laws_eqTextResult.calls t60 t72 t57 t67 true _ A11.out).mono ?_); rintro e w42 ⟨rfl, hb⟩; refine ⟨_, rfl, ?_⟩; have n0_ := Aside0.mk (Kd.S_below (by (with_reducible repeat (first | apply Kd.S_alloc | apply Kd.S_drewN | apply Kd.S_drew)); exact (Kd.S_mono (Kd.S_far (p := ⟨gb53, 1, none⟩) (Kd.S_far (p := ⟨gb53, 0, none⟩) (Kd.S_types HO55.out BK53.out (by decide)) (fun _ hk => hk.2) (.int .i64 t60)) (fun _ hk => hk.2) (.string t72)) (fun _ h_ => h_.1))) hb); have n1_ := Aside0.mk (Kd.S_below (by (with_reducible repeat (first | apply Kd.S_alloc | apply Kd.S_drewN | apply Kd.S_drew)); exact (Kd.S_mono (Kd.S_far (p := ⟨gb53, 1, none⟩) (Kd.S_far (p := ⟨gb53, 0, none⟩) (Kd.S_types HO56.out BK53.out (by decide)) (fun _ hk => hk.2) (.int .i64 t60)) (fun _ hk => hk.2) (.string t72)) (fun _ h_ => h_.1))) hb); have n2_ := Aside0.mk (Kd.S_below (by (with_reducible repeat (first | apply Kd.S_alloc | apply Kd.S_drewN | apply Kd.S_drew)); exact (Kd.S_mono (Kd.S_far (p := ⟨gb53, 1, none⟩) (Kd.S_far (p := ⟨gb53, 0, none⟩) (Kd.S_types HO58.out BK53.out (by decide)) (fun _ hk => hk.2) (.int .i64 t60)) (fun _ hk => hk.2) (.string t72)) (fun _ h_ => h_.1))) hb); have n3_ := Aside0.mk (Kd.S_below (by (with_reducible repeat (first | apply Kd.S_alloc | apply Kd.S_drewN | apply Kd.S_drew)); exact (Kd.S_mono (Kd.S_far (p := ⟨gb53, 1, none⟩) (Kd.S_far (p := ⟨gb53, 0, none⟩) (Kd.S_types HO59.out BK53.out (by decide)) (fun _ hk => hk.2) (.int .i64 t60)) (fun _ hk => hk.2) (.string t72)) (fun _ h_ => h_.1))) hb); have n4_ := Aside0.mk (blk_below (g := gb48) (o := .cells #[.int .i64 a0_0, .int .i64 a0_1, .slice A0_2 l0_2.length c0_2, .slice A0_3 l0_3.length c0_3] 25 (0, 0)) (by refine zQ ?_; refine blk_far ?_ NB310_334.out _; refine zQ ?_; refine blk_far ?_ NB310_334.out _; refine zQ ?_; exact BK48.out) hb); have n5_ := Aside0.mk (blk_below (g := gb51) (o := .cells #[.int .i64 t57, .string t67] 28 (0, 0)) (by refine zQ ?_; refine blk_far ?_ NB322_334.out _; refine zQ ?_; refine blk_far ?_ NB322_334.out _; refine zQ ?_; exact BK51.out) hb); have n6_ := Aside0.mk (blk_below (g := gb50) (o := .cells #[.int .i64 t52, .int .i64 t62, .slice Ao33 t63.length co33, .slice Ao34 t66.length co34] 33 (0, 0)) (by refine zQ ?_; refine blk_far ?_ NB331_334.out _; refine zQ ?_; refine blk_far ?_ NB331_334.out _; refine zQ ?_; exact BK50.out) hb); have n7_ := Aside0.mk (blk_below (g := gb53) (o := .cells #[.int .i64 t60, .string t72] 28 (0, 0)) (by refine zQ ?_; refine blk_put (cs := #[.int .i64 t60, .string (⟨#[]⟩ : ByteArray)]) ?_ 1 _ rfl; refine zQ ?_; refine blk_put (cs := #[.int .i64 0, .string (⟨#[]⟩ : ByteArray)]) ?_ 0 _ rfl; refine zQ ?_; exact BK53.out) hb); have n8_ := Aside0.mk (below_step zb hb); clear HO55; clear HO56; clear HO58; clear HO59; clear BK48; clear BK51; clear BK50; clear BK53; clear HB; have HO55 := n0_; have HO56 := n1_; have HO58 := n2_; have HO59 := n3_; have BK48 := n4_; have BK51 := n5_; have BK50 := n6_; have BK53 := n7_; have HB := n8_; clear n0_ n1_ n2_ n3_ n4_ n5_ n6_ n7_ n8_; (try clear hb); (try clear hb2); (try clear hk); (try clear hi)))
   replace HO55 := Aside0.mk (Kd.S_drew HO55.out)
   replace HO56 := Aside0.mk (Kd.S_drew HO56.out)
   replace HO58 := Aside0.mk (Kd.S_drew HO58.out)
   replace HO59 := Aside0.mk (Kd.S_drew HO59.out)
   replace BK48 := Aside0.mk (blk_drew BK48.out)
   replace BK51 := Aside0.mk (blk_drew BK51.out)
   replace BK50 := Aside0.mk (blk_drew BK50.out)
   replace BK53 := Aside0.mk (blk_drew BK53.out)
   replace HB := Aside0.mk (below_drew1 HB.out)
   refine start_ (n := 5) (S := fun w' => w'.cell? ⟨gb50, 0, none⟩ = some (.int .i64 t52) ∧ w'.cell? ⟨gb50, 1, none⟩ = some (.int .i64 t62) ∧ w'.cell? ⟨gb50, 2, none⟩ = some (.slice Ao33 t63.length co33) ∧ w'.cell? ⟨gb50, 3, none⟩ = some (.slice Ao34 t66.length co34) ∧ w'.cell? ⟨gb48, 0, none⟩ = some (.int .i64 a0_0) ∧ w'.cell? ⟨gb48, 1, none⟩ = some (.int .i64 a0_1) ∧ w'.cell? ⟨gb48, 2, none⟩ = some (.slice A0_2 l0_2.length c0_2) ∧ w'.cell? ⟨gb48, 3, none⟩ = some (.slice A0_3 l0_3.length c0_3)) (ds := []) #[Z, Z, Z, Z, Z] (by kernel_rfl) rfl rfl ⟨(blk_cell BK50.out 0).trans rfl, (blk_cell BK50.out 1).trans rfl, (blk_cell BK50.out 2).trans rfl, (blk_cell BK50.out 3).trans rfl, (blk_cell BK48.out 0).trans rfl, (blk_cell BK48.out 1).trans rfl, (blk_cell BK48.out 2).trans rfl, (blk_cell BK48.out 3).trans rfl⟩ (fun hHeld => ?_)
   generalize w42.drew = w43 at HO55 HO56 HO58 HO59 BK48 BK51 BK50 BK53 HB hHeld ⊢
   refine zt 0 23 ?_; refine zt 1 24 ?_
   refine one_ (i := 2) (N := some 25) #[Y, Y, Y, Z, Z] rfl rfl (by kernel_rfl) (by decide) (fun K hK => ?_)
   refine goes_ Tryd.func6 (by kernel_rfl) rfl #[.agg #[.int .i64 a0_0, .int .i64 a0_1, .slice A0_2 l0_2.length c0_2, .slice A0_3 l0_3.length c0_3]] (by rfl) rfl rfl zm ?_
   with_reducible refine (laws_toEngine.calls k a0_0 a0_1 _ _ l0_2 _ _ l0_3 t54 t79 t81 t82 _ ?side1 ?side2 ?side3 ?side4 A13.out).mono ?_
   (case side1 => exact zc (Kd.C_below HR0_2.out HB.out))
   (case side2 => exact HC0_2.out)
   (case side3 => exact zc (Kd.C_below HR0_3.out HB.out))
   (case side4 => exact HC0_3.out)
   rintro e w44 ⟨v92, v93, rfl, ho0, ho1, hb⟩
   refine ⟨_, rfl, ?_⟩
   have HO74 := Aside0.mk (Kd.S_lower (Kd.S_new' (Kd.S_new' ho0 (Kd.S_lt (by (with_reducible repeat (first | apply Kd.S_alloc | apply Kd.S_drewN | apply Kd.S_drew)); exact HO55.out))) (Kd.S_lt (by (with_reducible repeat (first | apply Kd.S_alloc | apply Kd.S_drewN | apply Kd.S_drew)); exact HO58.out))) (below_size zb))
   have HO75 := Aside0.mk (Kd.S_lower (Kd.S_new' (Kd.S_new' ho1 (Kd.S_lt (by (with_reducible repeat (first | apply Kd.S_alloc | apply Kd.S_drewN | apply Kd.S_drew)); exact HO56.out))) (Kd.S_lt (by (with_reducible repeat (first | apply Kd.S_alloc | apply Kd.S_drewN | apply Kd.S_drew)); exact HO59.out))) (below_size zb))
   replace HO55 := Aside0.mk (Kd.S_elder' (by (with_reducible repeat (first | apply Kd.S_alloc | apply Kd.S_drewN | apply Kd.S_drew)); exact HO55.out) (Kd.S_base ho0) hb)
   replace HO56 := Aside0.mk (Kd.S_elder' (by (with_reducible repeat (first | apply Kd.S_alloc | apply Kd.S_drewN | apply Kd.S_drew)); exact HO56.out) (Kd.S_base ho1) hb)
   replace HO58 := Aside0.mk (Kd.S_elder' (by (with_reducible repeat (first | apply Kd.S_alloc | apply Kd.S_drewN | apply Kd.S_drew)); exact HO58.out) (Kd.S_base ho0) hb)
   replace HO59 := Aside0.mk (Kd.S_elder' (by (with_reducible repeat (first | apply Kd.S_alloc | apply Kd.S_drewN | apply Kd.S_drew)); exact HO59.out) (Kd.S_base ho1) hb)
   replace BK48 := zw BK48 hb
   replace BK51 := zw BK51 hb
   replace BK50 := zw BK50 hb
   replace BK53 := zw BK53 hb
   replace HB := Aside0.mk (below_step zb hb)
   (try clear hb)
   (try clear hb2)
   (try clear hk)
   (try clear hi)
   (try clear ho0)
   (try clear ho1)
   obtain ⟨Ao45, co45, eo45⟩ := Kd.S_slice HO74.out
   (first | subst eo45 | (injection eo45 with f1_ f2_ f3_; have f4_ := f1_.symm; have f5_ := f3_.symm; clear f1_ f2_ f3_; subst f4_; subst f5_))
   obtain ⟨Ao46, co46, eo46⟩ := Kd.S_slice HO75.out
   (first | subst eo46 | (injection eo46 with f1_ f2_ f3_; have f4_ := f1_.symm; have f5_ := f3_.symm; clear f1_ f2_ f3_; subst f4_; subst f5_))
   refine hK.out _ _ ⟨(blk_cell BK50.out 0).trans rfl, (blk_cell BK50.out 1).trans rfl, (blk_cell BK50.out 2).trans rfl, (blk_cell BK50.out 3).trans rfl, (blk_cell BK48.out 0).trans rfl, (blk_cell BK48.out 1).trans rfl, (blk_cell BK48.out 2).trans rfl, (blk_cell BK48.out 3).trans rfl⟩ (fun hHeld => ?_)
   clear hK K
   refine norm_ (a' := ?_) ?_ ?_
   rotate_left
   ·show Act.put _ (some 25) _ = _
    simp only [Act.put, List.setIfInBounds_toArray, List.set_cons_zero, List.set_cons_succ, i64_w, i32_w]
    rfl
   refine one_ (i := 3) (N := some 26) #[Y, Y, Y, Y, Z] rfl rfl (by kernel_rfl) (by decide) (fun K hK => ?_)
   refine goes_ Tryd.func9 (by kernel_rfl) rfl #[.agg #[.int .i64 t52, .int .i64 t62, .slice Ao33 t63.length co33, .slice Ao34 t66.length co34], .agg #[.int .i64 t54, .int .i64 t79, .slice Ao45 t81.length co45, .slice Ao46 t82.length co46]] (by rfl) rfl rfl zm ?_
   with_reducible refine (laws_eqEngine.calls k t52 t62 _ _ t63 _ _ t66 t54 t79 _ _ t81 _ _ t82 true _ ?side1 ?side2 ?side3 ?side4 ?side5 ?side6 ?side7 ?side8 A14.out).mono ?_
   (case side1 => exact zc (Kd.S_reads' HO58.out).2.2)
   (case side2 => exact (Kd.S_reads' HO58.out).2.1)
   (case side3 => exact zc (Kd.S_reads' HO59.out).2.2)
   (case side4 => exact (Kd.S_reads' HO59.out).2.1)
   (case side5 => exact zc (Kd.S_reads' HO74.out).2.2)
   (case side6 => exact (Kd.S_reads' HO74.out).2.1)
   (case side7 => exact zc (Kd.S_reads' HO75.out).2.2)
   (case side8 => exact (Kd.S_reads' HO75.out).2.1)
   rintro e w47 ⟨rfl, hb⟩
   refine ⟨_, rfl, ?_⟩
   replace HO55 := Aside0.mk (Kd.S_below (by (with_reducible repeat (first | apply Kd.S_alloc | apply Kd.S_drewN | apply Kd.S_drew)); exact HO55.out) hb)
   replace HO56 := Aside0.mk (Kd.S_below (by (with_reducible repeat (first | apply Kd.S_alloc | apply Kd.S_drewN | apply Kd.S_drew)); exact HO56.out) hb)
   replace HO58 := Aside0.mk (Kd.S_below (by (with_reducible repeat (first | apply Kd.S_alloc | apply Kd.S_drewN | apply Kd.S_drew)); exact HO58.out) hb)
   replace HO59 := Aside0.mk (Kd.S_below (by (with_reducible repeat (first | apply Kd.S_alloc | apply Kd.S_drewN | apply Kd.S_drew)); exact HO59.out) hb)
   replace HO74 := Aside0.mk (Kd.S_below (by (with_reducible repeat (first | apply Kd.S_alloc | apply Kd.S_drewN | apply Kd.S_drew)); exact HO74.out) hb)
   replace HO75 := Aside0.mk (Kd.S_below (by (with_reducible repeat (first | apply Kd.S_alloc | apply Kd.S_drewN | apply Kd.S_drew)); exact HO75.out) hb)
   replace BK48 := zw BK48 hb
   replace BK51 := zw BK51 hb
   replace BK50 := zw BK50 hb
   replace BK53 := zw BK53 hb
   replace HB := Aside0.mk (below_step zb hb)
   (try clear hb)
   (try clear hb2)
   (try clear hk)
   (try clear hi)
   refine hK.out _ _ ⟨(blk_cell BK50.out 0).trans rfl, (blk_cell BK50.out 1).trans rfl, (blk_cell BK50.out 2).trans rfl, (blk_cell BK50.out 3).trans rfl, (blk_cell BK48.out 0).trans rfl, (blk_cell BK48.out 1).trans rfl, (blk_cell BK48.out 2).trans rfl, (blk_cell BK48.out 3).trans rfl⟩ (fun hHeld => ?_)
   clear hK K
   refine norm_ (a' := ?_) ?_ ?_
   rotate_left
   ·show Act.put _ (some 26) _ = _
    simp only [Act.put, List.setIfInBounds_toArray, List.set_cons_zero, List.set_cons_succ, i64_w, i32_w]
    rfl
   refine zp 4 27 ?_
   refine done_ (by kernel_rfl) ?_
   try go_wp2
   go_ret
   exact ⟨ze, zb⟩
  replace c15 := Bool.eq_false_iff.mpr c15
  subst c15
  have H1 : (some false) = some true := by rw [if_neg (show ¬ (false = true) by decide)] at H; first | done | exact H
  clear H
  have H := H1
  clear H1
  exact absurd H (by simp)
 replace c12 := Bool.eq_false_iff.mpr c12
 subst c12
 have H1 : (some false) = some true := by rw [if_neg (show ¬ (false = true) by decide)] at H; first | done | exact H
 clear H
 have H := H1
 clear H1
 exact absurd H (by simp)
end Go.Proofs.YtldlnafakfigeaaDoor.P
