import Derived.Test.YtocdahbinombkaaGreatZz
import Derived.Test.YtocdahbinombkaaGreatP0
import Derived.Test.YtocdahbinombkaaGreatPCall3
import Derived.Test.YtocdahbinombkaaGreatPDall0
import Derived.Test.YtocdahbinombkaaGreatPE0
import Derived.Test.YtocdahbinombkaaGreatWRepsOne
import Derived.Test.YtocdahbinombkaaGreatWTab
namespace Go.Proofs.YtocdahbinombkaaGreat.P
open Go.RowKit Go.Proofs.YtocdahbinombkaaGreatW.PrintWords Go.Proofs.YtocdahbinombkaaGreatW.PrintLast Go.Proofs.YtocdahbinombkaaGreatW.PrintMore
attribute [local go_sem] max2_int min2_int max_two min_two max_three min_three max_four min_four   -- for this text's walks alone
set_option linter.unusedVariables false
set_option linter.unusedSimpArgs false
attribute [local go_sem high] eqA55
def spec_l8Add.T2 : Bool × List (List Nat × List Nat) := (true, [([], []), ([], []), ([1], [1]), ([0, 2], [0, 2]), ([3], [3]), ([4], [4]), ([4], [4]), ([5, 6, 4], [4, 5, 6]), ([7, 4], [4, 7]), ([4], [4]), ([8, 9, 4, 4], [4, 8, 9]), ([4, 10], [4, 10])])
def spec_l8Add.B2 : List Nat := [0, 0, 2, 7, 15, 31, 31, 127, 255, 31, 1023, 2047]
theorem spec_l8Add.tab2 : rtab .any (opsOf Tryz.f51 2) = spec_l8Add.T2 := by kernel_rfl
theorem spec_l8Add.bits2 : waitsOk spec_l8Add.T2.2 spec_l8Add.B2 = true := by kernel_rfl
def spec_l8Add.T4 : Bool × List (List Nat × List Nat) := (true, [([], []), ([], []), ([1], [1]), ([0, 2], [0, 2]), ([3], [3]), ([4], [4]), ([4], [4]), ([5, 6, 4], [4, 5, 6]), ([7, 4], [4, 7]), ([4], [4]), ([8, 9, 4], [4, 8, 9]), ([4, 10], [4, 10])])
def spec_l8Add.B4 : List Nat := [0, 0, 2, 7, 15, 31, 31, 127, 255, 31, 1023, 2047]
theorem spec_l8Add.tab4 : rtab .any (opsOf Tryz.f51 4) = spec_l8Add.T4 := by kernel_rfl
theorem spec_l8Add.bits4 : waitsOk spec_l8Add.T4.2 spec_l8Add.B4 = true := by kernel_rfl
def spec_l8Add.T6 : Bool × List (List Nat × List Nat) := (true, [([], []), ([], []), ([], []), ([1, 2], [1, 2]), ([0, 3], [0, 3]), ([], []), ([5], [5]), ([4, 6, 4], [4, 6]), ([], []), ([], []), ([8, 9], [8, 9]), ([7, 10, 7], [7, 10]), ([11, 11, 0, 1, 2, 3, 4, 5, 6, 7, 8, 9, 10, 11], [11])])
def spec_l8Add.B6 : List Nat := [0, 0, 0, 6, 15, 0, 32, 127, 0, 0, 768, 2047, 4095]
theorem spec_l8Add.tab6 : rtab .any (opsOf Tryz.f51 6) = spec_l8Add.T6 := by kernel_rfl
theorem spec_l8Add.bits6 : waitsOk spec_l8Add.T6.2 spec_l8Add.B6 = true := by kernel_rfl
set_option maxHeartbeats 8000000 in
set_option maxRecDepth 100000 in
theorem spec_l8Add.calls (k : Nat) (A0 : Option Addr) (c0 : Nat) (l0 : List (S55)) (a1_0 : Int) (a1_1 : Int) (r : List (S55)) (w : World) (hr0 : Kd.C k55 w A0 l0.length l0) (hc0 : l0.length ≤ c0) (h : spec_l8Add.f k l0 a1_0 a1_1 = some r) :
 Calls Tryz.prog 51 #[.slice A0 l0.length c0, .agg #[.int .i64 a1_0, .int .i64 a1_1]] w fun e w' => ∃ v0_ : Value, e = .returned (v0_) ∧ Kd.R k55 55 w' w.heap.size (fun _ => True) v0_ r ∧ Below w.heap.size w w' := by
 have hu55 := Tryz.underlying55
 have HR0 := Aside0.mk hr0
 have HC0 := Aside0.mk hc0
 clear hr0 hc0
 have HB := Aside0.mk (Below.refl w.heap.size w)
 have H : (spec_l8Add.l0 k l0 0 a1_0 a1_1) = some r := h
 clear h
 have H' := Aside0.mk H
 clear H
 go_enter Tryz.func51, Tryz.ntmps51
 go_wp2_with (first | ((with_reducible refine gate_dst (N := 3) rfl ?_); refine box_event ?hg (N := 3) ?hd (cs := #[.int .i64 a1_0, .int .i64 a1_1]) (t := 55) ?hr ?_; (case hd => rfl); (case hg => rfl); (case hr => first | (go_simp; done) | (go_simp; rfl)); intro gb61 hg w3 hbox hb; have n0_ := Aside0.mk (below_step zb hb); have n1_ := Aside0.mk (hbox); have n2_ := Aside0.mk ((by rw [hg]; exact (below_size zb) : w.heap.size ≤ gb61)); have n3_ := n2_; clear HB; have HB := n0_; have BK61 := n1_; have GW61 := n2_; have GE61 := n3_; clear n0_ n1_ n2_ n3_; clear hb hbox hg))
 go_loopg [5] k (fun kq v5 w' => ∃ (x5_1 : Int), v5 = .int .i64 x5_1 ∧ Aside0 (spec_l8Add.l0 kq l0 x5_1 a1_0 a1_1 = some r) ∧ Aside0 (kq ≤ k) ∧ Aside0 (w'.heap[gb61]? = some (.cells #[.int .i64 a1_0, .int .i64 a1_1] 55 (0, 0))) ∧ Aside0 (Below w.heap.size w w'))
 case atStart => exact ⟨(0), zs, H', ⟨Nat.le_refl _⟩, ⟨by (with_reducible repeat (first | refine blk_drewN ?_ _ | refine blk_drew ?_ | refine blk_alloc ?_ _)); exact BK61.out⟩, ⟨zb⟩⟩
 case round =>
  clear H'
  try clear p2
  obtain ⟨x5_1, rfl, HA, HK1, BK61, HB⟩ := hrel
  cases gk with
  | zero => exact absurd HA.out (by simp [spec_l8Add.l0])
  | succ k1 =>
   have H := HA.out
   clear HA
   simp only [spec_l8Add.l0] at H
   by_cases c4 : x5_1 < (l0.length : Int)
   ·rw [if_pos c4] at H
    have c4b0 : decide (x5_1 < (l0.length : Int)) = true := decide_eq_true c4
    clear c4
    by_cases c5 : 0 ≤ x5_1
    ·rw [if_pos c5] at H
     have c5b0 : decide (0 ≤ x5_1) = true := decide_eq_true c5
     clear c5
     replace H := Option.bind_eq_some_iff.mp H
     obtain ⟨t96, A60, H⟩ := H
     replace H : (if t96 = true then (spec_l8Add.l0 k1 l0 (wrap64 (x5_1 + 1)) a1_0 a1_1) else (if (((rd_T55 l0 x5_1).f0) == a1_0 && (((rd_T55 l0 x5_1).f1) == a1_1)) = true then ((some (([] : List (S55)) : List (S55))).bind fun y78 => (if y78.length + l0.length < 8796093022208 then (some (y78 ++ l0)) else (none))) else ((some (([] : List (S55)) : List (S55))).bind fun y75 => (if x5_1 ≤ (l0.length : Int) then ((some (l0.take (x5_1 : Int).toNat : List (S55))).bind fun y73 => (if y75.length + y73.length < 8796093022208 then ((some (y75 ++ y73 : List (S55))).bind fun y69 => ((some (([(⟨a1_0, a1_1⟩ : S55)] : List (S55)) : List (S55))).bind fun y66 => (if y69.length + y66.length < 8796093022208 then ((some (y69 ++ y66 : List (S55))).bind fun y68 => ((some (l0.drop (x5_1 : Int).toNat : List (S55))).bind fun y65 => (if y68.length + y65.length < 8796093022208 then (some (y68 ++ y65)) else (none)))) else (none)))) else (none))) else (none))))) = some r := H
     have A6 := Aside0.mk A60
     clear A60
     by_cases c7 : t96 = true
     ·subst c7
      have H1 : (spec_l8Add.l0 k1 l0 (wrap64 (x5_1 + 1)) a1_0 a1_1) = some r := by rw [if_pos rfl] at H; exact H
      clear H
      have H := H1
      clear H1
      have H' := Aside0.mk H
      clear H
      try go_wp2
      have n0_ := Aside0.mk (blk_drew BK61.out)
      have n1_ := Aside0.mk (below_drew1 HB.out)
      clear BK61
      clear HB
      have BK61 := n0_
      have HB := n1_
      clear n0_ n1_
      have p138 : 0 ≤ (x5_1 : Int) := of_decide_eq_true za
      have q62 : x5_1 < (l0.length : Int) := of_decide_eq_true za
      obtain ⟨ad62, e138, hx62_0, hx62_1⟩ := at_T55 HR0.out x5_1 p138 q62
      have hw62_1 := hx62_1
      have hw62_0 := hx62_0
      cases e138
      replace hx62_0 := zx HB hx62_0
      replace hx62_1 := zx HB hx62_1
      replace p138 := eq_true p138
      replace q62 := eq_true q62
      refine start_ (n := 12) (S := fun w' => w'.cell? ⟨gb61, 0, none⟩ = some (.int .i64 a1_0) ∧ w'.cell? ⟨gb61, 1, none⟩ = some (.int .i64 a1_1) ∧ w'.cell? (ad62.add ((x5_1).toNat * 2)) = some (.int .i64 ((rd_T55 l0 x5_1).f0)) ∧ w'.cell? ⟨(ad62.add ((x5_1).toNat * 2)).block, (ad62.add ((x5_1).toNat * 2)).off + 1, none⟩ = some (.int .i64 ((rd_T55 l0 x5_1).f1))) (ds := []) #[false, false, false, false, false, false, false, false, false, false, false, false] (by kernel_rfl) rfl rfl ⟨(blk_cell BK61.out 0).trans rfl, (blk_cell BK61.out 1).trans rfl, ((HB.out.cell (World.block_lt_of_cell? w _ hw62_0)).trans hw62_0), ((HB.out.cell (World.block_lt_of_cell? w _ hw62_1)).trans hw62_1)⟩ (fun hHeld => ?_); refine with_tabW spec_l8Add.tab2 spec_l8Add.bits2 (fun HT_ HW_ => ?_)
      generalize wr.drew = w8 at BK61 HB hx62_0 hx62_1 hHeld ⊢
      refine zp 0 6 ?_; refine zp 1 7 ?_; refine zp 2 8 ?_; refine zp 3 9 ?_; refine zp 4 10 ?_; refine zp 5 11 ?_; refine zp 6 12 ?_; refine zp 7 13 ?_; refine zt 8 14 ?_; refine zt 9 15 ?_
      refine one_ (i := 10) (N := some 16) #[true, true, true, true, true, true, true, true, true, true, true, false] rfl rfl (one_of HT_.out (by kernel_rfl)) (by decide) (fun K hK => ?_)
      refine goes_ Tryz.func50 (by kernel_rfl) rfl #[.agg #[.int .i64 ((rd_T55 l0 x5_1).f0), .int .i64 ((rd_T55 l0 x5_1).f1)], .agg #[.int .i64 a1_0, .int .i64 a1_1]] (by rfl) rfl rfl zm ?_
      with_reducible refine (spec_l8Behind.calls ((rd_T55 l0 x5_1).f0) ((rd_T55 l0 x5_1).f1) a1_0 a1_1 true _ A6.out).mono ?_
      rintro e w9 ⟨rfl, hb⟩
      refine ⟨_, rfl, ?_⟩
      have n0_ := Aside0.mk (blk_below (g := gb61) (o := .cells #[.int .i64 a1_0, .int .i64 a1_1] 55 (0, 0)) zk hb)
      have n1_ := Aside0.mk (below_step zb hb)
      clear BK61
      clear HB
      have BK61 := n0_
      have HB := n1_
      clear n0_ n1_
      (try clear hb)
      (try clear hb2)
      (try clear hk)
      (try clear hi)
      refine hK.out _ _ ⟨(blk_cell BK61.out 0).trans rfl, (blk_cell BK61.out 1).trans rfl, ((HB.out.cell (World.block_lt_of_cell? w _ hw62_0)).trans hw62_0), ((HB.out.cell (World.block_lt_of_cell? w _ hw62_1)).trans hw62_1)⟩ (fun hHeld => ?_)
      clear hK K
      refine norm_ (a' := ?_) ?_ ?_
      rotate_left
      ·show Act.put _ (some 16) _ = _
       simp only [Act.put, List.setIfInBounds_toArray, List.set_cons_zero, List.set_cons_succ, i64_w, i32_w]
       rfl
      refine zp 11 17 ?_
      refine done_ (done_of HT_.out (by kernel_rfl)) ?_
      try go_wp2
      go_roundg k1
      case measure => have := HK1.out; omega
      case rel => exact ⟨(wrap64 (x5_1 + 1)), zs, H', ⟨by have := HK1.out; omega⟩, ⟨by (with_reducible repeat (first | refine blk_drewN ?_ _ | refine blk_drew ?_ | refine blk_alloc ?_ _)); exact BK61.out⟩, ⟨zb⟩⟩
     replace c7 := Bool.eq_false_iff.mpr c7
     subst c7
     have H1 : (if (((rd_T55 l0 x5_1).f0) == a1_0 && (((rd_T55 l0 x5_1).f1) == a1_1)) = true then ((some (([] : List (S55)) : List (S55))).bind fun y78 => (if y78.length + l0.length < 8796093022208 then (some (y78 ++ l0)) else (none))) else ((some (([] : List (S55)) : List (S55))).bind fun y75 => (if x5_1 ≤ (l0.length : Int) then ((some (l0.take (x5_1 : Int).toNat : List (S55))).bind fun y73 => (if y75.length + y73.length < 8796093022208 then ((some (y75 ++ y73 : List (S55))).bind fun y69 => ((some (([(⟨a1_0, a1_1⟩ : S55)] : List (S55)) : List (S55))).bind fun y66 => (if y69.length + y66.length < 8796093022208 then ((some (y69 ++ y66 : List (S55))).bind fun y68 => ((some (l0.drop (x5_1 : Int).toNat : List (S55))).bind fun y65 => (if y68.length + y65.length < 8796093022208 then (some (y68 ++ y65)) else (none)))) else (none)))) else (none))) else (none)))) = some r := by rw [if_neg (show ¬ (false = true) by decide)] at H; exact H
     clear H
     have H := H1
     clear H1
     by_cases c10 : (((rd_T55 l0 x5_1).f0) == a1_0 && (((rd_T55 l0 x5_1).f1) == a1_1)) = true
     ·rw [if_pos c10] at H
      have c10b0 : (((rd_T55 l0 x5_1).f0) == a1_0 && (((rd_T55 l0 x5_1).f1) == a1_1)) = true := c10
      (try (have c10b1 : decide (((rd_T55 l0 x5_1).f0) = a1_0 && (((rd_T55 l0 x5_1).f1) == a1_1)) = true := by simpa using c10))
      (try (have c10b2 : (((rd_T55 l0 x5_1).f0) == a1_0 && (((rd_T55 l0 x5_1).f1) == a1_1)) = true := by simpa using c10))
      clear c10
      obtain ⟨y78, hy78⟩ : ∃ y_ : List (S55), y_ = (([] : List (S55))) := ⟨_, rfl⟩
      replace H : (if y78.length + l0.length < 8796093022208 then (some (y78 ++ l0)) else (none)) = some r := by first | (rw [hy78]; with_reducible exact H) | (have H2_ := (Option.bind_some _ _).symm.trans H; rw [hy78]; with_reducible exact H2_) | (have H2_ := (Option.bind_some _ _).symm.trans H; with_reducible exact H2_) | with_reducible exact H | (rw [hy78]; exact H) | exact H
      have Ny78 := Aside0.mk hy78
      clear hy78
      by_cases c11 : y78.length + l0.length < 8796093022208
      ·rw [if_pos c11] at H
       have LMc11 := Aside0.mk c11
       clear c11
       obtain ⟨y86, hy86⟩ : ∃ y_ : List (S55), y_ = (y78 ++ l0) := ⟨_, rfl⟩
       replace H : (some y86) = some r := by first | (rw [hy86]; with_reducible exact H) | (have H2_ := (Option.bind_some _ _).symm.trans H; rw [hy86]; with_reducible exact H2_) | (have H2_ := (Option.bind_some _ _).symm.trans H; with_reducible exact H2_) | with_reducible exact H | (rw [hy86]; exact H) | exact H
       have Ny86 := Aside0.mk hy86
       clear hy86
       obtain rfl := Option.some.inj H
       try go_wp2
       have n0_ := Aside0.mk (blk_drew BK61.out)
       have n1_ := Aside0.mk (below_drew1 HB.out)
       clear BK61
       clear HB
       have BK61 := n0_
       have HB := n1_
       clear n0_ n1_
       have p138 : 0 ≤ (x5_1 : Int) := of_decide_eq_true za
       have q62 : x5_1 < (l0.length : Int) := of_decide_eq_true za
       obtain ⟨ad62, e138, hx62_0, hx62_1⟩ := at_T55 HR0.out x5_1 p138 q62
       have hw62_1 := hx62_1
       have hw62_0 := hx62_0
       cases e138
       replace hx62_0 := zx HB hx62_0
       replace hx62_1 := zx HB hx62_1
       replace p138 := eq_true p138
       replace q62 := eq_true q62
       refine start_ (n := 12) (S := fun w' => w'.cell? ⟨gb61, 0, none⟩ = some (.int .i64 a1_0) ∧ w'.cell? ⟨gb61, 1, none⟩ = some (.int .i64 a1_1) ∧ w'.cell? (ad62.add ((x5_1).toNat * 2)) = some (.int .i64 ((rd_T55 l0 x5_1).f0)) ∧ w'.cell? ⟨(ad62.add ((x5_1).toNat * 2)).block, (ad62.add ((x5_1).toNat * 2)).off + 1, none⟩ = some (.int .i64 ((rd_T55 l0 x5_1).f1))) (ds := []) #[false, false, false, false, false, false, false, false, false, false, false, false] (by kernel_rfl) rfl rfl ⟨(blk_cell BK61.out 0).trans rfl, (blk_cell BK61.out 1).trans rfl, ((HB.out.cell (World.block_lt_of_cell? w _ hw62_0)).trans hw62_0), ((HB.out.cell (World.block_lt_of_cell? w _ hw62_1)).trans hw62_1)⟩ (fun hHeld => ?_); refine with_tabW spec_l8Add.tab2 spec_l8Add.bits2 (fun HT_ HW_ => ?_)
       generalize wr.drew = w12 at BK61 HB hx62_0 hx62_1 hHeld ⊢
       refine zp 0 6 ?_; refine zp 1 7 ?_; refine zp 2 8 ?_; refine zp 3 9 ?_; refine zp 4 10 ?_; refine zp 5 11 ?_; refine zp 6 12 ?_; refine zp 7 13 ?_; refine zt 8 14 ?_; refine zt 9 15 ?_
       refine one_ (i := 10) (N := some 16) #[true, true, true, true, true, true, true, true, true, true, true, false] rfl rfl (one_of HT_.out (by kernel_rfl)) (by decide) (fun K hK => ?_)
       refine goes_ Tryz.func50 (by kernel_rfl) rfl #[.agg #[.int .i64 ((rd_T55 l0 x5_1).f0), .int .i64 ((rd_T55 l0 x5_1).f1)], .agg #[.int .i64 a1_0, .int .i64 a1_1]] (by rfl) rfl rfl zm ?_
       with_reducible refine (spec_l8Behind.calls ((rd_T55 l0 x5_1).f0) ((rd_T55 l0 x5_1).f1) a1_0 a1_1 false _ A6.out).mono ?_
       rintro e w13 ⟨rfl, hb⟩
       refine ⟨_, rfl, ?_⟩
       have n0_ := Aside0.mk (blk_below (g := gb61) (o := .cells #[.int .i64 a1_0, .int .i64 a1_1] 55 (0, 0)) zk hb)
       have n1_ := Aside0.mk (below_step zb hb)
       clear BK61
       clear HB
       have BK61 := n0_
       have HB := n1_
       clear n0_ n1_
       (try clear hb)
       (try clear hb2)
       (try clear hk)
       (try clear hi)
       refine hK.out _ _ ⟨(blk_cell BK61.out 0).trans rfl, (blk_cell BK61.out 1).trans rfl, ((HB.out.cell (World.block_lt_of_cell? w _ hw62_0)).trans hw62_0), ((HB.out.cell (World.block_lt_of_cell? w _ hw62_1)).trans hw62_1)⟩ (fun hHeld => ?_)
       clear hK K
       refine norm_ (a' := ?_) ?_ ?_
       rotate_left
       ·show Act.put _ (some 16) _ = _
        simp only [Act.put, List.setIfInBounds_toArray, List.set_cons_zero, List.set_cons_succ, i64_w, i32_w]
        rfl
       refine zp 11 17 ?_
       refine done_ (done_of HT_.out (by kernel_rfl)) ?_
       try go_wp2
       have n0_ := Aside0.mk (blk_drew BK61.out)
       have n1_ := Aside0.mk (below_drew1 HB.out)
       clear BK61
       clear HB
       have BK61 := n0_
       have HB := n1_
       clear n0_ n1_
       have p140 : 0 ≤ (x5_1 : Int) := of_decide_eq_true za
       have q63 : x5_1 < (l0.length : Int) := of_decide_eq_true za
       obtain ⟨ad63, e140, hx63_0, hx63_1⟩ := at_T55 HR0.out x5_1 p140 q63
       have hw63_1 := hx63_1
       have hw63_0 := hx63_0
       obtain rfl : ad62 = ad63 := (by injection e140)
       replace hx63_0 := zx HB hx63_0
       replace hx63_1 := zx HB hx63_1
       replace p140 := eq_true p140
       replace q63 := eq_true q63
       refine start_ (n := 12) (S := fun w' => w'.cell? ⟨gb61, 0, none⟩ = some (.int .i64 a1_0) ∧ w'.cell? ⟨gb61, 1, none⟩ = some (.int .i64 a1_1) ∧ w'.cell? (ad62.add ((x5_1).toNat * 2)) = some (.int .i64 ((rd_T55 l0 x5_1).f0)) ∧ w'.cell? ⟨(ad62.add ((x5_1).toNat * 2)).block, (ad62.add ((x5_1).toNat * 2)).off + 1, none⟩ = some (.int .i64 ((rd_T55 l0 x5_1).f1))) (ds := []) #[false, false, false, false, false, false, false, false, false, false, false, false] (by kernel_rfl) rfl rfl ⟨(blk_cell BK61.out 0).trans rfl, (blk_cell BK61.out 1).trans rfl, ((HB.out.cell (World.block_lt_of_cell? w _ hw63_0)).trans hw63_0), ((HB.out.cell (World.block_lt_of_cell? w _ hw63_1)).trans hw63_1)⟩ (fun hHeld => ?_); refine with_tabW spec_l8Add.tab4 spec_l8Add.bits4 (fun HT_ HW_ => ?_)
       generalize w13.drew = w14 at BK61 HB hx63_0 hx63_1 hHeld ⊢
       refine zp 0 20 ?_; refine zp 1 21 ?_; refine zp 2 22 ?_; refine zp 3 23 ?_; refine zp 4 24 ?_; refine zp 5 25 ?_; refine zp 6 26 ?_; refine zp 7 27 ?_; refine zt 8 28 ?_; refine zt 9 29 ?_; refine zp 10 30 ?_; refine zp 11 31 ?_
       refine done_ (done_of HT_.out (by kernel_rfl)) ?_
       try go_wp2_with (first | ((with_reducible refine gate_dst (N := 32) rfl ?_); refine Kd.R_lit k55 _ 55 ?hg (N := 32) ?hd (xs := ([] : List (S55))) (inner := []) (ok := fun _ => True) (okp := fun _ => True) ?hr ?hp (fun _ hk => hk) trivial (Below.refl _ _) (Nat.le_refl _) (by simp) ?_; (case hd => rfl); (case hg => rfl); (case hr => first | (go_simp; done) | (go_simp; rfl)); (case hp => exact (Reps.none _ _)); intro v97 w15 ho16 hb hg_ hnew_; clear hg_ hnew_; (first | rw [← Ny78.out] at ho16 | (simp only [Int.reduceToNat] at ho16; rw [← Ny78.out] at ho16)); have n0_ := Aside0.mk (Kd.R_lower (Kd.R_newB ho16 (g := gb61) (o := .cells #[.int .i64 a1_0, .int .i64 a1_1] 55 (0, 0)) zk) (below_size zb)); have n1_ := Aside0.mk (blk_below (g := gb61) (o := .cells #[.int .i64 a1_0, .int .i64 a1_1] 55 (0, 0)) zk hb); have n2_ := Aside0.mk (below_step zb hb); clear BK61; clear HB; have HO93 := n0_; have BK61 := n1_; have HB := n2_; clear n0_ n1_ n2_; clear hb ho16) | ((with_reducible refine gate_builtin (b := .append) (xs := #[.tmp 32, .tmp 33]) rfl ?_); at_builtin; refine Kd.R_append_rows k55 (w0 := w) w.heap.size rfl (.tmp 32) (.tmp 33) 35 55 (.agg #[(.int .i64 0), (.int .i64 0)]) 16 rfl Tryz.underlying35 info55 rfl (by decide) (by omega) v97 y78 l0 _ _ _ (fun k_ => k_ ≠ gb61) (fun _ => False) rfl rfl ?aO ?aR (fun _ _ h => h) (fun _ h => h.elim) ?aF ?aB ?aS ?aL ?_; (case aR => repeat (first | exact (Kd.C_below HR0.out HB.out) | (with_reducible first | refine Kd.C_alloc ?_ _ | refine Kd.C_drewN ?_ _ | refine Kd.C_drew ?_))); (case aB => exact zb); (case aF => exact (fun k_ hk => Kd.freshB (g := gb61) (o := .cells #[.int .i64 a1_0, .int .i64 a1_1] 55 (0, 0)) zk k_ hk)); (case aO => exact (by (with_reducible repeat (first | apply Kd.R_alloc | apply Kd.R_drewN | apply Kd.R_drew)); exact Kd.R_mono HO93.out (fun _ hk => hk.2))); (case aS => exact (below_size zb)); (case aL => have := LMc11.out; omega); intro v145 w17 ho hb hg hat; rw [← Ny86.out] at ho; have n0_ := Aside0.mk (blk_grown (g := gb61) (o := .cells #[.int .i64 a1_0, .int .i64 a1_1] 55 (0, 0)) zk hg (Kd.R_away HO93.out (fun _ hk => hk.2))); have n1_ := Aside0.mk (hb); have n2_ := Aside0.mk (ho); clear BK61; clear HB; clear HO93; have BK61 := n0_; have HB := n1_; have HO98 := n2_; clear n0_ n1_ n2_; clear ho hb hg hat))
       go_ret
       exact ⟨_, ze, by (with_reducible repeat (first | apply Kd.R_alloc | apply Kd.R_drewN | apply Kd.R_drew)); exact Kd.R_mono HO98.out (fun _ hk => trivial), zb⟩
      rw [if_neg c11] at H
      exact absurd H (by simp)
     rw [if_neg c10] at H
     have c10b0 : (((rd_T55 l0 x5_1).f0) == a1_0 && (((rd_T55 l0 x5_1).f1) == a1_1)) = false := by simpa using c10
     (try (have c10b1 : decide (((rd_T55 l0 x5_1).f0) = a1_0 && (((rd_T55 l0 x5_1).f1) == a1_1)) = false := by simpa using c10))
     (try (have c10b2 : (((rd_T55 l0 x5_1).f0) == a1_0 && (((rd_T55 l0 x5_1).f1) == a1_1)) = false := by simpa using c10))
     (try (have c10b3 : ¬ (((rd_T55 l0 x5_1).f0) = a1_0 && (((rd_T55 l0 x5_1).f1) == a1_1)) := by simpa using c10))
     clear c10
     obtain ⟨y75, hy75⟩ : ∃ y_ : List (S55), y_ = (([] : List (S55))) := ⟨_, rfl⟩
     replace H : (if x5_1 ≤ (l0.length : Int) then ((some (l0.take (x5_1 : Int).toNat : List (S55))).bind fun y73 => (if y75.length + y73.length < 8796093022208 then ((some (y75 ++ y73 : List (S55))).bind fun y69 => ((some (([(⟨a1_0, a1_1⟩ : S55)] : List (S55)) : List (S55))).bind fun y66 => (if y69.length + y66.length < 8796093022208 then ((some (y69 ++ y66 : List (S55))).bind fun y68 => ((some (l0.drop (x5_1 : Int).toNat : List (S55))).bind fun y65 => (if y68.length + y65.length < 8796093022208 then (some (y68 ++ y65)) else (none)))) else (none)))) else (none))) else (none)) = some r := by first | (rw [hy75]; with_reducible exact H) | (have H2_ := (Option.bind_some _ _).symm.trans H; rw [hy75]; with_reducible exact H2_) | (have H2_ := (Option.bind_some _ _).symm.trans H; with_reducible exact H2_) | with_reducible exact H | (rw [hy75]; exact H) | exact H
     have Ny75 := Aside0.mk hy75
     clear hy75
     have c18b0 := eq_true (of_decide_eq_true za : 0 ≤ x5_1)
     by_cases c19 : x5_1 ≤ (l0.length : Int)
     ·rw [if_pos c19] at H
      have c19b0 := eq_true c19
      have c19b1 : decide (x5_1 ≤ (l0.length : Int)) = true := decide_eq_true c19
      clear c19
      obtain ⟨y73, hy73⟩ : ∃ y_ : List (S55), y_ = (l0.take (x5_1 : Int).toNat) := ⟨_, rfl⟩
      replace H : (if y75.length + y73.length < 8796093022208 then ((some (y75 ++ y73 : List (S55))).bind fun y69 => ((some (([(⟨a1_0, a1_1⟩ : S55)] : List (S55)) : List (S55))).bind fun y66 => (if y69.length + y66.length < 8796093022208 then ((some (y69 ++ y66 : List (S55))).bind fun y68 => ((some (l0.drop (x5_1 : Int).toNat : List (S55))).bind fun y65 => (if y68.length + y65.length < 8796093022208 then (some (y68 ++ y65)) else (none)))) else (none)))) else (none)) = some r := by first | (rw [hy73]; with_reducible exact H) | (have H2_ := (Option.bind_some _ _).symm.trans H; rw [hy73]; with_reducible exact H2_) | (have H2_ := (Option.bind_some _ _).symm.trans H; with_reducible exact H2_) | with_reducible exact H | (rw [hy73]; exact H) | exact H
      have Ny73 := Aside0.mk hy73
      clear hy73
      by_cases c20 : y75.length + y73.length < 8796093022208
      ·rw [if_pos c20] at H
       have LMc20 := Aside0.mk c20
       clear c20
       obtain ⟨y69, hy69⟩ : ∃ y_ : List (S55), y_ = (y75 ++ y73) := ⟨_, rfl⟩
       replace H : ((some (([(⟨a1_0, a1_1⟩ : S55)] : List (S55)) : List (S55))).bind fun y66 => (if y69.length + y66.length < 8796093022208 then ((some (y69 ++ y66 : List (S55))).bind fun y68 => ((some (l0.drop (x5_1 : Int).toNat : List (S55))).bind fun y65 => (if y68.length + y65.length < 8796093022208 then (some (y68 ++ y65)) else (none)))) else (none))) = some r := by first | (rw [hy69]; with_reducible exact H) | (have H2_ := (Option.bind_some _ _).symm.trans H; rw [hy69]; with_reducible exact H2_) | (have H2_ := (Option.bind_some _ _).symm.trans H; with_reducible exact H2_) | with_reducible exact H | (rw [hy69]; exact H) | exact H
       have Ny69 := Aside0.mk hy69
       clear hy69
       obtain ⟨y66, hy66⟩ : ∃ y_ : List (S55), y_ = (([(⟨a1_0, a1_1⟩ : S55)] : List (S55))) := ⟨_, rfl⟩
       replace H : (if y69.length + y66.length < 8796093022208 then ((some (y69 ++ y66 : List (S55))).bind fun y68 => ((some (l0.drop (x5_1 : Int).toNat : List (S55))).bind fun y65 => (if y68.length + y65.length < 8796093022208 then (some (y68 ++ y65)) else (none)))) else (none)) = some r := by first | (rw [hy66]; with_reducible exact H) | (have H2_ := (Option.bind_some _ _).symm.trans H; rw [hy66]; with_reducible exact H2_) | (have H2_ := (Option.bind_some _ _).symm.trans H; with_reducible exact H2_) | with_reducible exact H | (rw [hy66]; exact H) | exact H
       have Ny66 := Aside0.mk hy66
       clear hy66
       by_cases c21 : y69.length + y66.length < 8796093022208
       ·rw [if_pos c21] at H
        have LMc21 := Aside0.mk c21
        clear c21
        obtain ⟨y68, hy68⟩ : ∃ y_ : List (S55), y_ = (y69 ++ y66) := ⟨_, rfl⟩
        replace H : ((some (l0.drop (x5_1 : Int).toNat : List (S55))).bind fun y65 => (if y68.length + y65.length < 8796093022208 then (some (y68 ++ y65)) else (none))) = some r := by first | (rw [hy68]; with_reducible exact H) | (have H2_ := (Option.bind_some _ _).symm.trans H; rw [hy68]; with_reducible exact H2_) | (have H2_ := (Option.bind_some _ _).symm.trans H; with_reducible exact H2_) | with_reducible exact H | (rw [hy68]; exact H) | exact H
        have Ny68 := Aside0.mk hy68
        clear hy68
        have c22b0 := eq_true (of_decide_eq_true za : 0 ≤ x5_1)
        have c23b0 := eq_true (of_decide_eq_true za : x5_1 ≤ (l0.length : Int))
        obtain ⟨y65, hy65⟩ : ∃ y_ : List (S55), y_ = (l0.drop (x5_1 : Int).toNat) := ⟨_, rfl⟩
        replace H : (if y68.length + y65.length < 8796093022208 then (some (y68 ++ y65)) else (none)) = some r := by first | (rw [hy65]; with_reducible exact H) | (have H2_ := (Option.bind_some _ _).symm.trans H; rw [hy65]; with_reducible exact H2_) | (have H2_ := (Option.bind_some _ _).symm.trans H; with_reducible exact H2_) | with_reducible exact H | (rw [hy65]; exact H) | exact H
        have Ny65 := Aside0.mk hy65
        clear hy65
        by_cases c24 : y68.length + y65.length < 8796093022208
        ·rw [if_pos c24] at H
         have LMc24 := Aside0.mk c24
         clear c24
         obtain ⟨y87, hy87⟩ : ∃ y_ : List (S55), y_ = (y68 ++ y65) := ⟨_, rfl⟩
         replace H : (some y87) = some r := by first | (rw [hy87]; with_reducible exact H) | (have H2_ := (Option.bind_some _ _).symm.trans H; rw [hy87]; with_reducible exact H2_) | (have H2_ := (Option.bind_some _ _).symm.trans H; with_reducible exact H2_) | with_reducible exact H | (rw [hy87]; exact H) | exact H
         have Ny87 := Aside0.mk hy87
         clear hy87
         obtain rfl := Option.some.inj H
         try go_wp2
         have n0_ := Aside0.mk (blk_drew BK61.out)
         have n1_ := Aside0.mk (below_drew1 HB.out)
         clear BK61
         clear HB
         have BK61 := n0_
         have HB := n1_
         clear n0_ n1_
         have p138 : 0 ≤ (x5_1 : Int) := of_decide_eq_true za
         have q62 : x5_1 < (l0.length : Int) := of_decide_eq_true za
         obtain ⟨ad62, e138, hx62_0, hx62_1⟩ := at_T55 HR0.out x5_1 p138 q62
         have hw62_1 := hx62_1
         have hw62_0 := hx62_0
         cases e138
         replace hx62_0 := zx HB hx62_0
         replace hx62_1 := zx HB hx62_1
         replace p138 := eq_true p138
         replace q62 := eq_true q62
         refine start_ (n := 12) (S := fun w' => w'.cell? ⟨gb61, 0, none⟩ = some (.int .i64 a1_0) ∧ w'.cell? ⟨gb61, 1, none⟩ = some (.int .i64 a1_1) ∧ w'.cell? (ad62.add ((x5_1).toNat * 2)) = some (.int .i64 ((rd_T55 l0 x5_1).f0)) ∧ w'.cell? ⟨(ad62.add ((x5_1).toNat * 2)).block, (ad62.add ((x5_1).toNat * 2)).off + 1, none⟩ = some (.int .i64 ((rd_T55 l0 x5_1).f1))) (ds := []) #[false, false, false, false, false, false, false, false, false, false, false, false] (by kernel_rfl) rfl rfl ⟨(blk_cell BK61.out 0).trans rfl, (blk_cell BK61.out 1).trans rfl, ((HB.out.cell (World.block_lt_of_cell? w _ hw62_0)).trans hw62_0), ((HB.out.cell (World.block_lt_of_cell? w _ hw62_1)).trans hw62_1)⟩ (fun hHeld => ?_); refine with_tabW spec_l8Add.tab2 spec_l8Add.bits2 (fun HT_ HW_ => ?_)
         generalize wr.drew = w25 at BK61 HB hx62_0 hx62_1 hHeld ⊢
         refine zp 0 6 ?_; refine zp 1 7 ?_; refine zp 2 8 ?_; refine zp 3 9 ?_; refine zp 4 10 ?_; refine zp 5 11 ?_; refine zp 6 12 ?_; refine zp 7 13 ?_; refine zt 8 14 ?_; refine zt 9 15 ?_
         refine one_ (i := 10) (N := some 16) #[true, true, true, true, true, true, true, true, true, true, true, false] rfl rfl (one_of HT_.out (by kernel_rfl)) (by decide) (fun K hK => ?_)
         refine goes_ Tryz.func50 (by kernel_rfl) rfl #[.agg #[.int .i64 ((rd_T55 l0 x5_1).f0), .int .i64 ((rd_T55 l0 x5_1).f1)], .agg #[.int .i64 a1_0, .int .i64 a1_1]] (by rfl) rfl rfl zm ?_
         with_reducible refine (spec_l8Behind.calls ((rd_T55 l0 x5_1).f0) ((rd_T55 l0 x5_1).f1) a1_0 a1_1 false _ A6.out).mono ?_
         rintro e w26 ⟨rfl, hb⟩
         refine ⟨_, rfl, ?_⟩
         have n0_ := Aside0.mk (blk_below (g := gb61) (o := .cells #[.int .i64 a1_0, .int .i64 a1_1] 55 (0, 0)) zk hb)
         have n1_ := Aside0.mk (below_step zb hb)
         clear BK61
         clear HB
         have BK61 := n0_
         have HB := n1_
         clear n0_ n1_
         (try clear hb)
         (try clear hb2)
         (try clear hk)
         (try clear hi)
         refine hK.out _ _ ⟨(blk_cell BK61.out 0).trans rfl, (blk_cell BK61.out 1).trans rfl, ((HB.out.cell (World.block_lt_of_cell? w _ hw62_0)).trans hw62_0), ((HB.out.cell (World.block_lt_of_cell? w _ hw62_1)).trans hw62_1)⟩ (fun hHeld => ?_)
         clear hK K
         refine norm_ (a' := ?_) ?_ ?_
         rotate_left
         ·show Act.put _ (some 16) _ = _
          simp only [Act.put, List.setIfInBounds_toArray, List.set_cons_zero, List.set_cons_succ, i64_w, i32_w]
          rfl
         refine zp 11 17 ?_
         refine done_ (done_of HT_.out (by kernel_rfl)) ?_
         try go_wp2
         have n0_ := Aside0.mk (blk_drew BK61.out)
         have n1_ := Aside0.mk (below_drew1 HB.out)
         clear BK61
         clear HB
         have BK61 := n0_
         have HB := n1_
         clear n0_ n1_
         have p140 : 0 ≤ (x5_1 : Int) := of_decide_eq_true za
         have q63 : x5_1 < (l0.length : Int) := of_decide_eq_true za
         obtain ⟨ad63, e140, hx63_0, hx63_1⟩ := at_T55 HR0.out x5_1 p140 q63
         have hw63_1 := hx63_1
         have hw63_0 := hx63_0
         obtain rfl : ad62 = ad63 := (by injection e140)
         replace hx63_0 := zx HB hx63_0
         replace hx63_1 := zx HB hx63_1
         replace p140 := eq_true p140
         replace q63 := eq_true q63
         refine start_ (n := 12) (S := fun w' => w'.cell? ⟨gb61, 0, none⟩ = some (.int .i64 a1_0) ∧ w'.cell? ⟨gb61, 1, none⟩ = some (.int .i64 a1_1) ∧ w'.cell? (ad62.add ((x5_1).toNat * 2)) = some (.int .i64 ((rd_T55 l0 x5_1).f0)) ∧ w'.cell? ⟨(ad62.add ((x5_1).toNat * 2)).block, (ad62.add ((x5_1).toNat * 2)).off + 1, none⟩ = some (.int .i64 ((rd_T55 l0 x5_1).f1))) (ds := []) #[false, false, false, false, false, false, false, false, false, false, false, false] (by kernel_rfl) rfl rfl ⟨(blk_cell BK61.out 0).trans rfl, (blk_cell BK61.out 1).trans rfl, ((HB.out.cell (World.block_lt_of_cell? w _ hw63_0)).trans hw63_0), ((HB.out.cell (World.block_lt_of_cell? w _ hw63_1)).trans hw63_1)⟩ (fun hHeld => ?_); refine with_tabW spec_l8Add.tab4 spec_l8Add.bits4 (fun HT_ HW_ => ?_)
         generalize w26.drew = w27 at BK61 HB hx63_0 hx63_1 hHeld ⊢
         refine zp 0 20 ?_; refine zp 1 21 ?_; refine zp 2 22 ?_; refine zp 3 23 ?_; refine zp 4 24 ?_; refine zp 5 25 ?_; refine zp 6 26 ?_; refine zp 7 27 ?_; refine zt 8 28 ?_; refine zt 9 29 ?_; refine zp 10 30 ?_; refine zp 11 31 ?_
         refine done_ (done_of HT_.out (by kernel_rfl)) ?_
         try go_wp2
         have n0_ := Aside0.mk (blk_drew BK61.out)
         have n1_ := Aside0.mk (below_drew1 HB.out)
         clear BK61
         clear HB
         have BK61 := n0_
         have HB := n1_
         clear n0_ n1_
         have q29 : (x5_1 : Int) ≤ ((l0.length : Int) : Int) := of_decide_eq_true za
         obtain ⟨i029, hi029, _, hsz29, _⟩ := info_parts info55
         have hroom29 : l0.length ≤ c0 := HC0.out
         have hC29 : Kd.C k55 _ (some ad62) l0.length l0 := HR0.out
         have hcut29 := cut_to (P := Tryz.prog) 35 55 .i64 Tryz.underlying35 hi029 (some ad62) l0.length c0 x5_1 (of_decide_eq_true za) q29 hroom29
         have hr29 := Kd.C_take (m := (x5_1 : Int).toNat) hC29 (by omega)
         have hy29 : y73.length = (x5_1 : Int).toNat := (by rw [Ny73.out, List.length_take]; omega)
         rw [← Ny73.out] at hr29
         rw [← hy29] at hcut29
         have HR153 := Aside0.mk hr29
         have HC153 := Aside0.mk (show y73.length ≤ c0 from by omega)
         clear hr29 hC29 hroom29 hi029 hsz29
         have KY29 := Aside0.mk hy29
         clear hy29
         replace q29 := eq_true q29
         have q30 : (x5_1 : Int) ≤ ((l0.length : Int) : Int) := of_decide_eq_true za
         obtain ⟨i030, hi030, _, hsz30, _⟩ := info_parts info55
         have hroom30 : l0.length ≤ c0 := HC0.out
         have hC30 : Kd.C k55 _ (some ad62) l0.length l0 := HR0.out
         have q99 : (0 : Int) ≤ (x5_1 : Int) := of_decide_eq_true za
         have hcut30 := cut_from (P := Tryz.prog) 35 55 .i64 Tryz.underlying35 hi030 2 hsz30 (some ad62) l0.length c0 x5_1 q99 q30
         have hr30 := Kd.C_drop (m := (x5_1 : Int).toNat) (c := c0) hC30 (by omega) hroom30
         obtain ⟨A30, hA30⟩ : ∃ A1, A1 = (if c0 = (x5_1 : Int).toNat then (some ad62) else ((some ad62) : Option Addr).map (·.add ((x5_1 : Int).toNat * 2))) := ⟨_, rfl⟩
         obtain ⟨c30, hc30⟩ : ∃ c1, c1 = c0 - (x5_1 : Int).toNat := ⟨_, rfl⟩
         have hy30 : y65.length = l0.length - (x5_1 : Int).toNat := (by rw [Ny65.out, List.length_drop] <;> omega)
         rw [show (l0).drop (x5_1 : Int).toNat = y65 from Ny65.out.symm] at hr30
         replace hr30 : Kd.C k55 _ A30 y65.length y65 := (by rw [hA30]; exact hr30)
         rw [← hy30, ← hA30, ← hc30] at hcut30
         have HR166 := Aside0.mk hr30
         have HC166 := Aside0.mk (show y65.length ≤ c30 from by rw [hy30, hc30]; exact Nat.sub_le_sub_right hroom30 _)
         clear hr30 hC30 hroom30 hi030 hsz30 hc30
         have KY30 := Aside0.mk hy30
         have KA30 := Aside0.mk hA30
         clear hy30 hA30
         replace q30 := eq_true q30
         refine start_ (n := 13) (S := fun w' => w'.cell? ⟨gb61, 0, none⟩ = some (.int .i64 a1_0) ∧ w'.cell? ⟨gb61, 1, none⟩ = some (.int .i64 a1_1)) (ds := []) #[false, false, false, false, false, false, false, false, false, false, false, false, false] (by kernel_rfl) rfl rfl ⟨(blk_cell BK61.out 0).trans rfl, (blk_cell BK61.out 1).trans rfl⟩ (fun hHeld => ?_); refine with_tabW spec_l8Add.tab6 spec_l8Add.bits6 (fun HT_ HW_ => ?_)
         generalize w27.drew = w28 at BK61 HB HR153 HR166 hHeld ⊢
         refine zp 1 36 ?_; refine zp 2 37 ?_; refine zp 3 38 ?_; refine zp 8 43 ?_; refine zp 9 44 ?_; refine zp 10 45 ?_; refine zt 5 40 ?_
         refine join_ (σ := Value × Value × Value) 3 #[true, true, true, true, true, true, true, false, true, true, true, false, false] (fun s_ => [(35, s_.1), (39, s_.2.1), (41, s_.2.2)]) (fun s_ w' => (w'.cell? ⟨gb61, 0, none⟩ = some (.int .i64 a1_0) ∧ w'.cell? ⟨gb61, 1, none⟩ = some (.int .i64 a1_1)) ∧ (Kd.R k55 55 w' w.heap.size (fun k_ => some k_ ≠ (s_.2.2 : Value).ownBlock ∧ k_ ≠ gb61) s_.2.1 y69) ∧ (Kd.R k55 55 w' w.heap.size (fun k_ => some k_ ≠ (s_.2.1 : Value).ownBlock ∧ k_ ≠ gb61) s_.2.2 y66) ∧ (w'.heap[gb61]? = some (.cells #[.int .i64 a1_0, .int .i64 a1_1] 55 (0, 0))) ∧ (Below w.heap.size w w')) ?_ ?_
         rotate_left
         ·intro hCont
          refine two_ (i := 0) (j := 6) (Ni := some 35) (Nj := some 41) #[true, true, true, true, false, true, false, false, true, true, true, false, false] #[false, true, true, true, false, true, true, false, true, true, true, false, false] rfl rfl rfl rfl (two_of HT_.out (by kernel_rfl)) (by decide) (by decide) (fun K hK => ?_) (fun K hK => ?_)
          ·skip
           refine Kd.R_lit_step k55 _ 55 ?hg (N := 35) ?hd (xs := ([] : List (S55))) (inner := []) (ok := fun _ => True) (okp := fun _ => True) ?hr ?hp (fun _ hk => hk) trivial (Below.refl _ _) (Nat.le_refl _) (by simp) ?_; (case hd => rfl); (case hg => rfl); (case hr => first | (go_simp; done) | (go_simp; rfl)); (case hp => exact (Reps.none _ _))
           intro v91 w31 ho32 hb hg_ hnew_
           clear hg_ hnew_
           (first | rw [← Ny75.out] at ho32 | (simp only [Int.reduceToNat] at ho32; rw [← Ny75.out] at ho32))
           have n0_ := Aside0.mk (Kd.R_lower (Kd.R_newB ho32 (g := gb61) (o := .cells #[.int .i64 a1_0, .int .i64 a1_1] 55 (0, 0)) zk) (below_size zb))
           have n1_ := Aside0.mk (blk_below (g := gb61) (o := .cells #[.int .i64 a1_0, .int .i64 a1_1] 55 (0, 0)) zk hb)
           have n2_ := Aside0.mk (below_step zb hb)
           clear BK61
           clear HB
           have HO80 := n0_
           have BK61 := n1_
           have HB := n2_
           clear n0_ n1_ n2_
           clear hb ho32
           refine hK.out _ _ ⟨(blk_cell BK61.out 0).trans rfl, (blk_cell BK61.out 1).trans rfl⟩ (fun hHeld => ?_)
           clear hK K
           refine norm_ (a' := ?_) ?_ ?_
           rotate_left
           ·show Act.put _ (some 35) _ = _
            simp only [Act.put, List.setIfInBounds_toArray, List.set_cons_zero, List.set_cons_succ, i64_w, i32_w]
            rfl
           refine two_ (i := 4) (j := 6) (Ni := some 39) (Nj := some 41) #[true, true, true, true, true, true, false, false, true, true, true, false, false] #[true, true, true, true, false, true, true, false, true, true, true, false, false] rfl rfl rfl rfl (two_of HT_.out (by kernel_rfl)) (by decide) (by decide) (fun K hK => ?_) (fun K hK => ?_)
           ·skip
            refine Kd.R_append_rows_step k55 (w0 := w) w.heap.size (by rfl) (.tmp 35) (.tmp 38) 35 55 (.agg #[(.int .i64 0), (.int .i64 0)]) 16 rfl Tryz.underlying35 info55 rfl (by decide) (by omega) v91 y75 y73 _ _ _ (fun k_ => k_ ≠ gb61) (fun _ => False) rfl rfl ?aO ?aR (fun _ _ h => h) (fun _ h => h.elim) ?aF ?aB ?aS ?aL ?_
            (case aR => repeat (first | exact (Kd.C_below HR153.out HB.out) | (with_reducible first | refine Kd.C_alloc ?_ _ | refine Kd.C_drewN ?_ _ | refine Kd.C_drew ?_)))
            (case aB => exact zb)
            (case aF => exact (fun k_ hk => Kd.freshB (g := gb61) (o := .cells #[.int .i64 a1_0, .int .i64 a1_1] 55 (0, 0)) zk k_ hk))
            (case aO => exact (by (with_reducible repeat (first | apply Kd.R_alloc | apply Kd.R_drewN | apply Kd.R_drew)); exact Kd.R_mono HO80.out (fun _ hk => hk.2)))
            (case aS => exact (below_size zb))
            (case aL => have := LMc20.out; omega)
            intro v88 w33 ho hb hg hat
            rw [← Ny69.out] at ho
            have n0_ := Aside0.mk (blk_grown (g := gb61) (o := .cells #[.int .i64 a1_0, .int .i64 a1_1] 55 (0, 0)) zk hg (Kd.R_away HO80.out (fun _ hk => hk.2)))
            have n1_ := Aside0.mk (hb)
            have n2_ := Aside0.mk (ho)
            clear BK61
            clear HB
            clear HO80
            have BK61 := n0_
            have HB := n1_
            have HO82 := n2_
            clear n0_ n1_ n2_
            clear ho hb hg hat
            refine hK.out _ _ ⟨(blk_cell BK61.out 0).trans rfl, (blk_cell BK61.out 1).trans rfl⟩ (fun hHeld => ?_)
            clear hK K
            refine norm_ (a' := ?_) ?_ ?_
            rotate_left
            ·show Act.put _ (some 39) _ = _
             simp only [Act.put, List.setIfInBounds_toArray, List.set_cons_zero, List.set_cons_succ, i64_w, i32_w]
             rfl
            refine one_ (i := 6) (N := some 41) #[true, true, true, true, true, true, true, false, true, true, true, false, false] rfl rfl (one_of HT_.out (by kernel_rfl)) (by decide) (fun K hK => ?_)
            refine Kd.R_lit_step k55 _ 55 ?hg (N := 41) ?hd (xs := ([(⟨a1_0, a1_1⟩ : S55)] : List (S55))) (inner := [.int .i64 a1_0, .int .i64 a1_1]) (ok := fun _ => True) (okp := fun _ => True) ?hr ?hp (fun _ hk => hk) trivial (Below.refl _ _) (Nat.le_refl _) (by simp) ?_; (case hd => rfl); (case hg => rfl); (case hr => first | (go_simp; done) | (go_simp; rfl)); (case hp => exact (Reps.c2 (show Kd.M k55 _ _ _ (⟨a1_0, a1_1⟩ : S55) [.int .i64 a1_0, .int .i64 a1_1] from (k55_mkM _ _ _ (⟨a1_0, a1_1⟩ : S55) )) (Reps.none _ _)))
            intro v84 w34 ho35 hb hg_ hnew_
            clear hg_ hnew_
            (first | rw [← Ny66.out] at ho35 | (simp only [Int.reduceToNat] at ho35; rw [← Ny66.out] at ho35))
            have n0_ := Aside0.mk (Kd.R_elder' (by (with_reducible repeat (first | apply Kd.R_alloc | apply Kd.R_drewN | apply Kd.R_drew)); exact HO82.out) (Kd.R_base ho35) hb)
            have n1_ := Aside0.mk (Kd.R_lower (Kd.R_newB (Kd.R_new' ho35 (Kd.R_lt (by (with_reducible repeat (first | apply Kd.R_alloc | apply Kd.R_drewN | apply Kd.R_drew)); exact HO82.out))) (g := gb61) (o := .cells #[.int .i64 a1_0, .int .i64 a1_1] 55 (0, 0)) zk) (below_size zb))
            have n2_ := Aside0.mk (blk_below (g := gb61) (o := .cells #[.int .i64 a1_0, .int .i64 a1_1] 55 (0, 0)) zk hb)
            have n3_ := Aside0.mk (below_step zb hb)
            clear HO82
            clear BK61
            clear HB
            have HO82 := n0_
            have HO71 := n1_
            have BK61 := n2_
            have HB := n3_
            clear n0_ n1_ n2_ n3_
            clear hb ho35
            refine hK.out _ _ ⟨(blk_cell BK61.out 0).trans rfl, (blk_cell BK61.out 1).trans rfl⟩ (fun hHeld => ?_)
            clear hK K
            refine norm_ (a' := ?_) ?_ ?_
            rotate_left
            ·show Act.put _ (some 41) _ = _
             simp only [Act.put, List.setIfInBounds_toArray, List.set_cons_zero, List.set_cons_succ, i64_w, i32_w]
             rfl
            exact norm_ (by simp only [putAll, Act.put, List.setIfInBounds_toArray, List.set_cons_zero, List.set_cons_succ]) (hCont (v91, v88, v84) _ ⟨hHeld, (by (with_reducible repeat (first | apply Kd.R_alloc | apply Kd.R_drewN | apply Kd.R_drew)); exact Kd.R_mono HO82.out (fun _ hk => ⟨hk.2, hk.1⟩)), (by (with_reducible repeat (first | apply Kd.R_alloc | apply Kd.R_drewN | apply Kd.R_drew)); exact Kd.R_mono HO71.out (fun _ hk => ⟨hk.1.2, hk.2⟩)), zk, zb⟩)
           skip
           refine Kd.R_lit_step k55 _ 55 ?hg (N := 41) ?hd (xs := ([(⟨a1_0, a1_1⟩ : S55)] : List (S55))) (inner := [.int .i64 a1_0, .int .i64 a1_1]) (ok := fun _ => True) (okp := fun _ => True) ?hr ?hp (fun _ hk => hk) trivial (Below.refl _ _) (Nat.le_refl _) (by simp) ?_; (case hd => rfl); (case hg => rfl); (case hr => first | (go_simp; done) | (go_simp; rfl)); (case hp => exact (Reps.c2 (show Kd.M k55 _ _ _ (⟨a1_0, a1_1⟩ : S55) [.int .i64 a1_0, .int .i64 a1_1] from (k55_mkM _ _ _ (⟨a1_0, a1_1⟩ : S55) )) (Reps.none _ _)))
           intro v84 w33 ho34 hb hg_ hnew_
           clear hg_ hnew_
           (first | rw [← Ny66.out] at ho34 | (simp only [Int.reduceToNat] at ho34; rw [← Ny66.out] at ho34))
           have n0_ := Aside0.mk (Kd.R_elder' (by (with_reducible repeat (first | apply Kd.R_alloc | apply Kd.R_drewN | apply Kd.R_drew)); exact HO80.out) (Kd.R_base ho34) hb)
           have n1_ := Aside0.mk (Kd.R_lower (Kd.R_newB (Kd.R_new' ho34 (Kd.R_lt (by (with_reducible repeat (first | apply Kd.R_alloc | apply Kd.R_drewN | apply Kd.R_drew)); exact HO80.out))) (g := gb61) (o := .cells #[.int .i64 a1_0, .int .i64 a1_1] 55 (0, 0)) zk) (below_size zb))
           have n2_ := Aside0.mk (blk_below (g := gb61) (o := .cells #[.int .i64 a1_0, .int .i64 a1_1] 55 (0, 0)) zk hb)
           have n3_ := Aside0.mk (below_step zb hb)
           clear HO80
           clear BK61
           clear HB
           have HO80 := n0_
           have HO71 := n1_
           have BK61 := n2_
           have HB := n3_
           clear n0_ n1_ n2_ n3_
           clear hb ho34
           refine hK.out _ _ ⟨(blk_cell BK61.out 0).trans rfl, (blk_cell BK61.out 1).trans rfl⟩ (fun hHeld => ?_)
           clear hK K
           refine norm_ (a' := ?_) ?_ ?_
           rotate_left
           ·show Act.put _ (some 41) _ = _
            simp only [Act.put, List.setIfInBounds_toArray, List.set_cons_zero, List.set_cons_succ, i64_w, i32_w]
            rfl
           refine one_ (i := 4) (N := some 39) #[true, true, true, true, true, true, true, false, true, true, true, false, false] rfl rfl (one_of HT_.out (by kernel_rfl)) (by decide) (fun K hK => ?_)
           refine Kd.R_append_rows_step k55 (w0 := w) w.heap.size (by rfl) (.tmp 35) (.tmp 38) 35 55 (.agg #[(.int .i64 0), (.int .i64 0)]) 16 rfl Tryz.underlying35 info55 rfl (by decide) (by omega) v91 y75 y73 _ _ _ (fun k_ => some k_ ≠ (v84 : Value).ownBlock ∧ k_ ≠ gb61) (fun _ => False) rfl rfl ?aO ?aR (fun _ _ h => h) (fun _ h => h.elim) ?aF ?aB ?aS ?aL ?_
           (case aR => repeat (first | exact (Kd.C_below HR153.out HB.out) | (with_reducible first | refine Kd.C_alloc ?_ _ | refine Kd.C_drewN ?_ _ | refine Kd.C_drew ?_)))
           (case aB => exact zb)
           (case aF => exact (fun k_ hk => ⟨Kd.fresh' (Kd.R_lt (by (with_reducible repeat (first | apply Kd.R_alloc | apply Kd.R_drewN | apply Kd.R_drew)); exact HO71.out)) k_ hk, Kd.freshB (g := gb61) (o := .cells #[.int .i64 a1_0, .int .i64 a1_1] 55 (0, 0)) zk k_ hk⟩))
           (case aO => exact (by (with_reducible repeat (first | apply Kd.R_alloc | apply Kd.R_drewN | apply Kd.R_drew)); exact Kd.R_mono HO80.out (fun _ hk => ⟨hk.2, hk.1.2⟩)))
           (case aS => exact (below_size zb))
           (case aL => have := LMc20.out; omega)
           intro v88 w35 ho hb hg hat
           rw [← Ny69.out] at ho
           have n0_ := Aside0.mk (blk_grown (g := gb61) (o := .cells #[.int .i64 a1_0, .int .i64 a1_1] 55 (0, 0)) zk hg (Kd.R_away HO80.out (fun _ hk => hk.1.2)))
           have n1_ := Aside0.mk (Kd.R_after (ok := (fun k_ => k_ ≠ gb61)) (by (with_reducible repeat (first | apply Kd.R_alloc | apply Kd.R_drewN | apply Kd.R_drew)); exact Kd.R_mono HO71.out (fun _ hk => ⟨hk.2, hk.1.2⟩)) hg hat)
           have n2_ := Aside0.mk (hb)
           have n3_ := Aside0.mk (ho)
           clear BK61
           clear HO71
           clear HB
           clear HO80
           have BK61 := n0_
           have HO71 := n1_
           have HB := n2_
           have HO82 := n3_
           clear n0_ n1_ n2_ n3_
           clear ho hb hg hat
           refine hK.out _ _ ⟨(blk_cell BK61.out 0).trans rfl, (blk_cell BK61.out 1).trans rfl⟩ (fun hHeld => ?_)
           clear hK K
           refine norm_ (a' := ?_) ?_ ?_
           rotate_left
           ·show Act.put _ (some 39) _ = _
            simp only [Act.put, List.setIfInBounds_toArray, List.set_cons_zero, List.set_cons_succ, i64_w, i32_w]
            rfl
           exact norm_ (by simp only [putAll, Act.put, List.setIfInBounds_toArray, List.set_cons_zero, List.set_cons_succ]) (hCont (v91, v88, v84) _ ⟨hHeld, (by (with_reducible repeat (first | apply Kd.R_alloc | apply Kd.R_drewN | apply Kd.R_drew)); exact HO82.out), (by (with_reducible repeat (first | apply Kd.R_alloc | apply Kd.R_drewN | apply Kd.R_drew)); exact Kd.R_mono HO71.out (fun _ hk => ⟨hk.2, hk.1⟩)), zk, zb⟩)
          skip
          refine Kd.R_lit_step k55 _ 55 ?hg (N := 41) ?hd (xs := ([(⟨a1_0, a1_1⟩ : S55)] : List (S55))) (inner := [.int .i64 a1_0, .int .i64 a1_1]) (ok := fun _ => True) (okp := fun _ => True) ?hr ?hp (fun _ hk => hk) trivial (Below.refl _ _) (Nat.le_refl _) (by simp) ?_; (case hd => rfl); (case hg => rfl); (case hr => first | (go_simp; done) | (go_simp; rfl)); (case hp => exact (Reps.c2 (show Kd.M k55 _ _ _ (⟨a1_0, a1_1⟩ : S55) [.int .i64 a1_0, .int .i64 a1_1] from (k55_mkM _ _ _ (⟨a1_0, a1_1⟩ : S55) )) (Reps.none _ _)))
          intro v84 w31 ho32 hb hg_ hnew_
          clear hg_ hnew_
          (first | rw [← Ny66.out] at ho32 | (simp only [Int.reduceToNat] at ho32; rw [← Ny66.out] at ho32))
          have n0_ := Aside0.mk (Kd.R_lower (Kd.R_newB ho32 (g := gb61) (o := .cells #[.int .i64 a1_0, .int .i64 a1_1] 55 (0, 0)) zk) (below_size zb))
          have n1_ := Aside0.mk (blk_below (g := gb61) (o := .cells #[.int .i64 a1_0, .int .i64 a1_1] 55 (0, 0)) zk hb)
          have n2_ := Aside0.mk (below_step zb hb)
          clear BK61
          clear HB
          have HO71 := n0_
          have BK61 := n1_
          have HB := n2_
          clear n0_ n1_ n2_
          clear hb ho32
          refine hK.out _ _ ⟨(blk_cell BK61.out 0).trans rfl, (blk_cell BK61.out 1).trans rfl⟩ (fun hHeld => ?_)
          clear hK K
          refine norm_ (a' := ?_) ?_ ?_
          rotate_left
          ·show Act.put _ (some 41) _ = _
           simp only [Act.put, List.setIfInBounds_toArray, List.set_cons_zero, List.set_cons_succ, i64_w, i32_w]
           rfl
          refine one_ (i := 0) (N := some 35) #[true, true, true, true, false, true, true, false, true, true, true, false, false] rfl rfl (one_of HT_.out (by kernel_rfl)) (by decide) (fun K hK => ?_)
          refine Kd.R_lit_step k55 _ 55 ?hg (N := 35) ?hd (xs := ([] : List (S55))) (inner := []) (ok := fun _ => True) (okp := fun _ => True) ?hr ?hp (fun _ hk => hk) trivial (Below.refl _ _) (Nat.le_refl _) (by simp) ?_; (case hd => rfl); (case hg => rfl); (case hr => first | (go_simp; done) | (go_simp; rfl)); (case hp => exact (Reps.none _ _))
          intro v91 w33 ho34 hb hg_ hnew_
          clear hg_ hnew_
          (first | rw [← Ny75.out] at ho34 | (simp only [Int.reduceToNat] at ho34; rw [← Ny75.out] at ho34))
          have n0_ := Aside0.mk (Kd.R_elder' (by (with_reducible repeat (first | apply Kd.R_alloc | apply Kd.R_drewN | apply Kd.R_drew)); exact HO71.out) (Kd.R_base ho34) hb)
          have n1_ := Aside0.mk (Kd.R_lower (Kd.R_newB (Kd.R_new' ho34 (Kd.R_lt (by (with_reducible repeat (first | apply Kd.R_alloc | apply Kd.R_drewN | apply Kd.R_drew)); exact HO71.out))) (g := gb61) (o := .cells #[.int .i64 a1_0, .int .i64 a1_1] 55 (0, 0)) zk) (below_size zb))
          have n2_ := Aside0.mk (blk_below (g := gb61) (o := .cells #[.int .i64 a1_0, .int .i64 a1_1] 55 (0, 0)) zk hb)
          have n3_ := Aside0.mk (below_step zb hb)
          clear HO71
          clear BK61
          clear HB
          have HO71 := n0_
          have HO80 := n1_
          have BK61 := n2_
          have HB := n3_
          clear n0_ n1_ n2_ n3_
          clear hb ho34
          refine hK.out _ _ ⟨(blk_cell BK61.out 0).trans rfl, (blk_cell BK61.out 1).trans rfl⟩ (fun hHeld => ?_)
          clear hK K
          refine norm_ (a' := ?_) ?_ ?_
          rotate_left
          ·show Act.put _ (some 35) _ = _
           simp only [Act.put, List.setIfInBounds_toArray, List.set_cons_zero, List.set_cons_succ, i64_w, i32_w]
           rfl
          refine one_ (i := 4) (N := some 39) #[true, true, true, true, true, true, true, false, true, true, true, false, false] rfl rfl (one_of HT_.out (by kernel_rfl)) (by decide) (fun K hK => ?_)
          refine Kd.R_append_rows_step k55 (w0 := w) w.heap.size (by rfl) (.tmp 35) (.tmp 38) 35 55 (.agg #[(.int .i64 0), (.int .i64 0)]) 16 rfl Tryz.underlying35 info55 rfl (by decide) (by omega) v91 y75 y73 _ _ _ (fun k_ => some k_ ≠ (v84 : Value).ownBlock ∧ k_ ≠ gb61) (fun _ => False) rfl rfl ?aO ?aR (fun _ _ h => h) (fun _ h => h.elim) ?aF ?aB ?aS ?aL ?_
          (case aR => repeat (first | exact (Kd.C_below HR153.out HB.out) | (with_reducible first | refine Kd.C_alloc ?_ _ | refine Kd.C_drewN ?_ _ | refine Kd.C_drew ?_)))
          (case aB => exact zb)
          (case aF => exact (fun k_ hk => ⟨Kd.fresh' (Kd.R_lt (by (with_reducible repeat (first | apply Kd.R_alloc | apply Kd.R_drewN | apply Kd.R_drew)); exact HO71.out)) k_ hk, Kd.freshB (g := gb61) (o := .cells #[.int .i64 a1_0, .int .i64 a1_1] 55 (0, 0)) zk k_ hk⟩))
          (case aO => exact (by (with_reducible repeat (first | apply Kd.R_alloc | apply Kd.R_drewN | apply Kd.R_drew)); exact Kd.R_mono HO80.out (fun _ hk => ⟨hk.1.2, hk.2⟩)))
          (case aS => exact (below_size zb))
          (case aL => have := LMc20.out; omega)
          intro v88 w35 ho hb hg hat
          rw [← Ny69.out] at ho
          have n0_ := Aside0.mk (blk_grown (g := gb61) (o := .cells #[.int .i64 a1_0, .int .i64 a1_1] 55 (0, 0)) zk hg (Kd.R_away HO80.out (fun _ hk => hk.2)))
          have n1_ := Aside0.mk (Kd.R_after (ok := (fun k_ => k_ ≠ gb61)) (by (with_reducible repeat (first | apply Kd.R_alloc | apply Kd.R_drewN | apply Kd.R_drew)); exact Kd.R_mono HO71.out (fun _ hk => ⟨hk.1.2, hk.2⟩)) hg hat)
          have n2_ := Aside0.mk (hb)
          have n3_ := Aside0.mk (ho)
          clear BK61
          clear HO71
          clear HB
          clear HO80
          have BK61 := n0_
          have HO71 := n1_
          have HB := n2_
          have HO82 := n3_
          clear n0_ n1_ n2_ n3_
          clear ho hb hg hat
          refine hK.out _ _ ⟨(blk_cell BK61.out 0).trans rfl, (blk_cell BK61.out 1).trans rfl⟩ (fun hHeld => ?_)
          clear hK K
          refine norm_ (a' := ?_) ?_ ?_
          rotate_left
          ·show Act.put _ (some 39) _ = _
           simp only [Act.put, List.setIfInBounds_toArray, List.set_cons_zero, List.set_cons_succ, i64_w, i32_w]
           rfl
          exact norm_ (by simp only [putAll, Act.put, List.setIfInBounds_toArray, List.set_cons_zero, List.set_cons_succ]) (hCont (v91, v88, v84) _ ⟨hHeld, (by (with_reducible repeat (first | apply Kd.R_alloc | apply Kd.R_drewN | apply Kd.R_drew)); exact HO82.out), (by (with_reducible repeat (first | apply Kd.R_alloc | apply Kd.R_drewN | apply Kd.R_drew)); exact Kd.R_mono HO71.out (fun _ hk => ⟨hk.2, hk.1⟩)), zk, zb⟩)
         rintro ⟨v91, v88, v84⟩ w36 ⟨hS_, h0_, h1_, h2_, h3_⟩
         have n0_ : Aside0 (Kd.R k55 55 w36 w.heap.size (fun k_ => some k_ ≠ (v84 : Value).ownBlock ∧ k_ ≠ gb61) v88 y69) := ⟨h0_⟩
         have n1_ : Aside0 (Kd.R k55 55 w36 w.heap.size (fun k_ => some k_ ≠ (v88 : Value).ownBlock ∧ k_ ≠ gb61) v84 y66) := ⟨h1_⟩
         have n2_ : Aside0 (w36.heap[gb61]? = some (.cells #[.int .i64 a1_0, .int .i64 a1_1] 55 (0, 0))) := ⟨h2_⟩
         have n3_ : Aside0 (Below w.heap.size w w36) := ⟨h3_⟩
         clear BK61
         clear HB
         clear h0_ h1_ h2_ h3_
         have HO82 := n0_
         have HO71 := n1_
         have BK61 := n2_
         have HB := n3_
         clear n0_ n1_ n2_ n3_
         have hHeld : w36.cell? ⟨gb61, 0, none⟩ = some (.int .i64 a1_0) ∧ w36.cell? ⟨gb61, 1, none⟩ = some (.int .i64 a1_1) := hS_
         obtain ⟨Ao38, co38, eo38⟩ := Kd.R_slice HO71.out
         (first | subst eo38 | (injection eo38 with f1_ f2_ f3_; have f4_ := f1_.symm; have f5_ := f3_.symm; clear f1_ f2_ f3_; subst f4_; subst f5_))
         refine norm_ (a' := ?_) ?_ ?_
         rotate_left
         ·simp only [putAll, Act.put, List.setIfInBounds_toArray, List.set_cons_zero, List.set_cons_succ]
          rfl
         refine one_ (i := 7) (N := some 42) #[true, true, true, true, true, true, true, true, true, true, true, false, false] rfl rfl (one_of HT_.out (by kernel_rfl)) (by decide) (fun K hK => ?_)
         refine Kd.R_append_rows_step k55 (w0 := w) w.heap.size (by rfl) (.tmp 39) (.tmp 41) 35 55 (.agg #[(.int .i64 0), (.int .i64 0)]) 16 rfl Tryz.underlying35 info55 rfl (by decide) (by omega) v88 y69 y66 _ _ _ (fun k_ => some k_ ≠ (.slice Ao38 y66.length co38 : Value).ownBlock ∧ k_ ≠ gb61) (fun _ => False) rfl rfl ?aO ?aR (fun _ _ h => h) (fun _ h => h.elim) ?aF ?aB ?aS ?aL ?_
         (case aR => repeat (first | exact (Kd.R_reads' HO71.out).2.2 | (with_reducible first | refine Kd.C_alloc ?_ _ | refine Kd.C_drewN ?_ _ | refine Kd.C_drew ?_)))
         (case aB => exact zb)
         (case aF => exact (fun k_ hk => ⟨Kd.fresh' (Kd.R_lt (by (with_reducible repeat (first | apply Kd.R_alloc | apply Kd.R_drewN | apply Kd.R_drew)); exact HO71.out)) k_ hk, Kd.freshB (g := gb61) (o := .cells #[.int .i64 a1_0, .int .i64 a1_1] 55 (0, 0)) zk k_ hk⟩))
         (case aO => exact (by (with_reducible repeat (first | apply Kd.R_alloc | apply Kd.R_drewN | apply Kd.R_drew)); exact HO82.out))
         (case aS => exact (below_size zb))
         (case aL => have := LMc21.out; omega)
         intro v161 w37 ho hb hg hat
         rw [← Ny68.out] at ho
         have n0_ := Aside0.mk (blk_grown (g := gb61) (o := .cells #[.int .i64 a1_0, .int .i64 a1_1] 55 (0, 0)) zk hg (Kd.R_away HO82.out (fun _ hk => hk.2)))
         have n1_ := Aside0.mk (Kd.R_after (ok := (fun k_ => k_ ≠ gb61)) (by (with_reducible repeat (first | apply Kd.R_alloc | apply Kd.R_drewN | apply Kd.R_drew)); exact Kd.R_mono HO71.out (fun _ hk => ⟨hk.2, hk.1⟩)) hg hat)
         have n2_ := Aside0.mk (hb)
         have n3_ := Aside0.mk (ho)
         clear BK61
         clear HO71
         clear HB
         clear HO82
         have BK61 := n0_
         have HO71 := n1_
         have HB := n2_
         have HO94 := n3_
         clear n0_ n1_ n2_ n3_
         clear ho hb hg hat
         refine hK.out _ _ ⟨(blk_cell BK61.out 0).trans rfl, (blk_cell BK61.out 1).trans rfl⟩ (fun hHeld => ?_)
         clear hK K
         refine norm_ (a' := ?_) ?_ ?_
         rotate_left
         ·show Act.put _ (some 42) _ = _
          simp only [Act.put, List.setIfInBounds_toArray, List.set_cons_zero, List.set_cons_succ, i64_w, i32_w]
          rfl
         refine one_ (i := 11) (N := some 46) #[true, true, true, true, true, true, true, true, true, true, true, true, false] rfl rfl (one_of HT_.out (by kernel_rfl)) (by decide) (fun K hK => ?_)
         refine Kd.R_append_rows_step k55 (w0 := w) w.heap.size (by rfl) (.tmp 42) (.tmp 45) 35 55 (.agg #[(.int .i64 0), (.int .i64 0)]) 16 rfl Tryz.underlying35 info55 rfl (by decide) (by omega) v161 y68 y65 _ _ _ (fun k_ => some k_ ≠ (.slice Ao38 y66.length co38 : Value).ownBlock ∧ k_ ≠ gb61) (fun _ => False) rfl rfl ?aO ?aR (fun _ _ h => h) (fun _ h => h.elim) ?aF ?aB ?aS ?aL ?_
         (case aR => repeat (first | exact (Kd.C_below HR166.out HB.out) | (with_reducible first | refine Kd.C_alloc ?_ _ | refine Kd.C_drewN ?_ _ | refine Kd.C_drew ?_)))
         (case aB => exact zb)
         (case aF => exact (fun k_ hk => ⟨Kd.fresh' (Kd.R_lt (by (with_reducible repeat (first | apply Kd.R_alloc | apply Kd.R_drewN | apply Kd.R_drew)); exact HO71.out)) k_ hk, Kd.freshB (g := gb61) (o := .cells #[.int .i64 a1_0, .int .i64 a1_1] 55 (0, 0)) zk k_ hk⟩))
         (case aO => exact (by (with_reducible repeat (first | apply Kd.R_alloc | apply Kd.R_drewN | apply Kd.R_drew)); exact HO94.out))
         (case aS => exact (below_size zb))
         (case aL => have := LMc24.out; omega)
         intro v168 w39 ho hb hg hat
         rw [← Ny87.out] at ho
         have n0_ := Aside0.mk (blk_grown (g := gb61) (o := .cells #[.int .i64 a1_0, .int .i64 a1_1] 55 (0, 0)) zk hg (Kd.R_away HO94.out (fun _ hk => hk.2)))
         have n1_ := Aside0.mk (Kd.R_after (ok := (fun k_ => k_ ≠ gb61)) (by (with_reducible repeat (first | apply Kd.R_alloc | apply Kd.R_drewN | apply Kd.R_drew)); exact HO71.out) hg hat)
         have n2_ := Aside0.mk (hb)
         have n3_ := Aside0.mk (ho)
         clear BK61
         clear HO71
         clear HB
         clear HO94
         have BK61 := n0_
         have HO71 := n1_
         have HB := n2_
         have HO169 := n3_
         clear n0_ n1_ n2_ n3_
         clear ho hb hg hat
         refine hK.out _ _ ⟨(blk_cell BK61.out 0).trans rfl, (blk_cell BK61.out 1).trans rfl⟩ (fun hHeld => ?_)
         clear hK K
         refine norm_ (a' := ?_) ?_ ?_
         rotate_left
         ·show Act.put _ (some 46) _ = _
          simp only [Act.put, List.setIfInBounds_toArray, List.set_cons_zero, List.set_cons_succ, i64_w, i32_w]
          rfl
         refine zp 12 4 ?_
         refine done_ (done_of HT_.out (by kernel_rfl)) ?_
         try go_wp2
         go_ret
         exact ⟨_, ze, by (with_reducible repeat (first | apply Kd.R_alloc | apply Kd.R_drewN | apply Kd.R_drew)); exact Kd.R_mono HO169.out (fun _ hk => trivial), zb⟩
        rw [if_neg c24] at H
        exact absurd H (by simp)
       rw [if_neg c21] at H
       exact absurd H (by simp)
      rw [if_neg c20] at H
      exact absurd H (by simp)
     rw [if_neg c19] at H
     exact absurd H (by simp)
    rw [if_neg c5] at H
    exact absurd H (by simp)
   rw [if_neg c4] at H
   have c4b0 : decide (x5_1 < (l0.length : Int)) = false := decide_eq_false c4
   clear c4
   obtain ⟨y79, hy79⟩ : ∃ y_ : List (S55), y_ = (([] : List (S55))) := ⟨_, rfl⟩
   replace H : (if 0 ≤ x5_1 then (if x5_1 ≤ (l0.length : Int) then ((some (l0.take (x5_1 : Int).toNat : List (S55))).bind fun y77 => (if y79.length + y77.length < 8796093022208 then ((some (y79 ++ y77 : List (S55))).bind fun y76 => ((some (([(⟨a1_0, a1_1⟩ : S55)] : List (S55)) : List (S55))).bind fun y70 => (if y76.length + y70.length < 8796093022208 then ((some (y76 ++ y70 : List (S55))).bind fun y74 => ((some (l0.drop (x5_1 : Int).toNat : List (S55))).bind fun y67 => (if y74.length + y67.length < 8796093022208 then (some (y74 ++ y67)) else (none)))) else (none)))) else (none))) else (none)) else (none)) = some r := by first | (rw [hy79]; with_reducible exact H) | (have H2_ := (Option.bind_some _ _).symm.trans H; rw [hy79]; with_reducible exact H2_) | (have H2_ := (Option.bind_some _ _).symm.trans H; with_reducible exact H2_) | with_reducible exact H | (rw [hy79]; exact H) | exact H
   have Ny79 := Aside0.mk hy79
   clear hy79
   by_cases c40 : 0 ≤ x5_1
   ·rw [if_pos c40] at H
    have c40b0 := eq_true c40
    have c40b1 : decide (0 ≤ x5_1) = true := decide_eq_true c40
    clear c40
    by_cases c41 : x5_1 ≤ (l0.length : Int)
    ·rw [if_pos c41] at H
     have c41b0 := eq_true c41
     have c41b1 : decide (x5_1 ≤ (l0.length : Int)) = true := decide_eq_true c41
     clear c41
     obtain ⟨y77, hy77⟩ : ∃ y_ : List (S55), y_ = (l0.take (x5_1 : Int).toNat) := ⟨_, rfl⟩
     replace H : (if y79.length + y77.length < 8796093022208 then ((some (y79 ++ y77 : List (S55))).bind fun y76 => ((some (([(⟨a1_0, a1_1⟩ : S55)] : List (S55)) : List (S55))).bind fun y70 => (if y76.length + y70.length < 8796093022208 then ((some (y76 ++ y70 : List (S55))).bind fun y74 => ((some (l0.drop (x5_1 : Int).toNat : List (S55))).bind fun y67 => (if y74.length + y67.length < 8796093022208 then (some (y74 ++ y67)) else (none)))) else (none)))) else (none)) = some r := by first | (rw [hy77]; with_reducible exact H) | (have H2_ := (Option.bind_some _ _).symm.trans H; rw [hy77]; with_reducible exact H2_) | (have H2_ := (Option.bind_some _ _).symm.trans H; with_reducible exact H2_) | with_reducible exact H | (rw [hy77]; exact H) | exact H
     have Ny77 := Aside0.mk hy77
     clear hy77
     by_cases c42 : y79.length + y77.length < 8796093022208
     ·rw [if_pos c42] at H
      have LMc42 := Aside0.mk c42
      clear c42
      obtain ⟨y76, hy76⟩ : ∃ y_ : List (S55), y_ = (y79 ++ y77) := ⟨_, rfl⟩
      replace H : ((some (([(⟨a1_0, a1_1⟩ : S55)] : List (S55)) : List (S55))).bind fun y70 => (if y76.length + y70.length < 8796093022208 then ((some (y76 ++ y70 : List (S55))).bind fun y74 => ((some (l0.drop (x5_1 : Int).toNat : List (S55))).bind fun y67 => (if y74.length + y67.length < 8796093022208 then (some (y74 ++ y67)) else (none)))) else (none))) = some r := by first | (rw [hy76]; with_reducible exact H) | (have H2_ := (Option.bind_some _ _).symm.trans H; rw [hy76]; with_reducible exact H2_) | (have H2_ := (Option.bind_some _ _).symm.trans H; with_reducible exact H2_) | with_reducible exact H | (rw [hy76]; exact H) | exact H
      have Ny76 := Aside0.mk hy76
      clear hy76
      obtain ⟨y70, hy70⟩ : ∃ y_ : List (S55), y_ = (([(⟨a1_0, a1_1⟩ : S55)] : List (S55))) := ⟨_, rfl⟩
      replace H : (if y76.length + y70.length < 8796093022208 then ((some (y76 ++ y70 : List (S55))).bind fun y74 => ((some (l0.drop (x5_1 : Int).toNat : List (S55))).bind fun y67 => (if y74.length + y67.length < 8796093022208 then (some (y74 ++ y67)) else (none)))) else (none)) = some r := by first | (rw [hy70]; with_reducible exact H) | (have H2_ := (Option.bind_some _ _).symm.trans H; rw [hy70]; with_reducible exact H2_) | (have H2_ := (Option.bind_some _ _).symm.trans H; with_reducible exact H2_) | with_reducible exact H | (rw [hy70]; exact H) | exact H
      have Ny70 := Aside0.mk hy70
      clear hy70
      by_cases c43 : y76.length + y70.length < 8796093022208
      ·rw [if_pos c43] at H
       have LMc43 := Aside0.mk c43
       clear c43
       obtain ⟨y74, hy74⟩ : ∃ y_ : List (S55), y_ = (y76 ++ y70) := ⟨_, rfl⟩
       replace H : ((some (l0.drop (x5_1 : Int).toNat : List (S55))).bind fun y67 => (if y74.length + y67.length < 8796093022208 then (some (y74 ++ y67)) else (none))) = some r := by first | (rw [hy74]; with_reducible exact H) | (have H2_ := (Option.bind_some _ _).symm.trans H; rw [hy74]; with_reducible exact H2_) | (have H2_ := (Option.bind_some _ _).symm.trans H; with_reducible exact H2_) | with_reducible exact H | (rw [hy74]; exact H) | exact H
       have Ny74 := Aside0.mk hy74
       clear hy74
       have c44b0 := eq_true (of_decide_eq_true za : 0 ≤ x5_1)
       have c45b0 := eq_true (of_decide_eq_true za : x5_1 ≤ (l0.length : Int))
       obtain ⟨y67, hy67⟩ : ∃ y_ : List (S55), y_ = (l0.drop (x5_1 : Int).toNat) := ⟨_, rfl⟩
       replace H : (if y74.length + y67.length < 8796093022208 then (some (y74 ++ y67)) else (none)) = some r := by first | (rw [hy67]; with_reducible exact H) | (have H2_ := (Option.bind_some _ _).symm.trans H; rw [hy67]; with_reducible exact H2_) | (have H2_ := (Option.bind_some _ _).symm.trans H; with_reducible exact H2_) | with_reducible exact H | (rw [hy67]; exact H) | exact H
       have Ny67 := Aside0.mk hy67
       clear hy67
       by_cases c46 : y74.length + y67.length < 8796093022208
       ·rw [if_pos c46] at H
        have LMc46 := Aside0.mk c46
        clear c46
        obtain ⟨y89, hy89⟩ : ∃ y_ : List (S55), y_ = (y74 ++ y67) := ⟨_, rfl⟩
        replace H : (some y89) = some r := by first | (rw [hy89]; with_reducible exact H) | (have H2_ := (Option.bind_some _ _).symm.trans H; rw [hy89]; with_reducible exact H2_) | (have H2_ := (Option.bind_some _ _).symm.trans H; with_reducible exact H2_) | with_reducible exact H | (rw [hy89]; exact H) | exact H
        have Ny89 := Aside0.mk hy89
        clear hy89
        obtain rfl := Option.some.inj H
        try go_wp2
        have n0_ := Aside0.mk (blk_drew BK61.out)
        have n1_ := Aside0.mk (below_drew1 HB.out)
        clear BK61
        clear HB
        have BK61 := n0_
        have HB := n1_
        clear n0_ n1_
        refine start_ (n := 12) (S := fun w' => True) (ds := []) #[false, false, false, false, false, false, false, false, false, false, false, false] (by kernel_rfl) rfl rfl trivial (fun hHeld => ?_); refine with_tabW spec_l8Add.tab2 spec_l8Add.bits2 (fun HT_ HW_ => ?_)
        generalize wr.drew = w47 at BK61 HB hHeld ⊢
        refine zp 0 6 ?_; refine zp 1 7 ?_; refine zp 2 8 ?_; refine zp 3 9 ?_; refine zp 4 10 ?_
        refine pure_ (i := 5) (N := some 11) (v := undef) (a' := ?_) #[true, true, true, true, true, true, false, false, false, false, false, false] rfl rfl (any_of HT_.out (by kernel_rfl)) (fun _ _ _ h => h) (Or.inr ⟨by rfl, rfl⟩) ?_ ?_
        rotate_left
        ·simp only [Act.put, List.setIfInBounds_toArray, List.set_cons_zero, List.set_cons_succ, i64_w, i32_w]
         rfl
        refine pure_ (i := 6) (N := some 12) (v := undef) (a' := ?_) #[true, true, true, true, true, true, true, false, false, false, false, false] rfl rfl (any_of HT_.out (by kernel_rfl)) (fun _ _ _ h => h) (Or.inr ⟨by rfl, rfl⟩) ?_ ?_
        rotate_left
        ·simp only [Act.put, List.setIfInBounds_toArray, List.set_cons_zero, List.set_cons_succ, i64_w, i32_w]
         rfl
        refine pure_ (i := 7) (N := some 13) (v := undef) (a' := ?_) #[true, true, true, true, true, true, true, true, false, false, false, false] rfl rfl (any_of HT_.out (by kernel_rfl)) (fun _ _ _ h => h) (Or.inr ⟨by rfl, rfl⟩) ?_ ?_
        rotate_left
        ·simp only [Act.put, List.setIfInBounds_toArray, List.set_cons_zero, List.set_cons_succ, i64_w, i32_w]
         rfl
        refine pure_ (i := 8) (N := some 14) (v := undef) (a' := ?_) #[true, true, true, true, true, true, true, true, true, false, false, false] rfl rfl (any_of HT_.out (by kernel_rfl)) (fun _ _ _ h => h) (Or.inr ⟨by rfl, rfl⟩) ?_ ?_
        rotate_left
        ·simp only [Act.put, List.setIfInBounds_toArray, List.set_cons_zero, List.set_cons_succ, i64_w, i32_w]
         rfl
        refine pure_ (i := 9) (N := some 15) (v := undef) (a' := ?_) #[true, true, true, true, true, true, true, true, true, true, false, false] rfl rfl (any_of HT_.out (by kernel_rfl)) (fun _ _ _ h => h) (Or.inr ⟨by rfl, rfl⟩) ?_ ?_
        rotate_left
        ·simp only [Act.put, List.setIfInBounds_toArray, List.set_cons_zero, List.set_cons_succ, i64_w, i32_w]
         rfl
        refine pure_ (i := 10) (N := some 16) (v := undef) (a' := ?_) #[true, true, true, true, true, true, true, true, true, true, true, false] rfl rfl (any_of HT_.out (by kernel_rfl)) (fun _ _ _ h => h) (Or.inr ⟨by rfl, rfl⟩) ?_ ?_
        rotate_left
        ·simp only [Act.put, List.setIfInBounds_toArray, List.set_cons_zero, List.set_cons_succ, i64_w, i32_w]
         rfl
        refine zp 11 17 ?_
        refine done_ (done_of HT_.out (by kernel_rfl)) ?_
        try go_wp2
        have n0_ := Aside0.mk (blk_drew BK61.out)
        have n1_ := Aside0.mk (below_drew1 HB.out)
        clear BK61
        clear HB
        have BK61 := n0_
        have HB := n1_
        clear n0_ n1_
        refine start_ (n := 12) (S := fun w' => True) (ds := []) #[false, false, false, false, false, false, false, false, false, false, false, false] (by kernel_rfl) rfl rfl trivial (fun hHeld => ?_); refine with_tabW spec_l8Add.tab4 spec_l8Add.bits4 (fun HT_ HW_ => ?_)
        generalize w47.drew = w48 at BK61 HB hHeld ⊢
        refine zp 0 20 ?_; refine zp 1 21 ?_; refine zp 2 22 ?_; refine zp 3 23 ?_; refine zp 4 24 ?_
        refine pure_ (i := 5) (N := some 25) (v := undef) (a' := ?_) #[true, true, true, true, true, true, false, false, false, false, false, false] rfl rfl (any_of HT_.out (by kernel_rfl)) (fun _ _ _ h => h) (Or.inr ⟨by rfl, rfl⟩) ?_ ?_
        rotate_left
        ·simp only [Act.put, List.setIfInBounds_toArray, List.set_cons_zero, List.set_cons_succ, i64_w, i32_w]
         rfl
        refine pure_ (i := 6) (N := some 26) (v := undef) (a' := ?_) #[true, true, true, true, true, true, true, false, false, false, false, false] rfl rfl (any_of HT_.out (by kernel_rfl)) (fun _ _ _ h => h) (Or.inr ⟨by rfl, rfl⟩) ?_ ?_
        rotate_left
        ·simp only [Act.put, List.setIfInBounds_toArray, List.set_cons_zero, List.set_cons_succ, i64_w, i32_w]
         rfl
        refine pure_ (i := 7) (N := some 27) (v := undef) (a' := ?_) #[true, true, true, true, true, true, true, true, false, false, false, false] rfl rfl (any_of HT_.out (by kernel_rfl)) (fun _ _ _ h => h) (Or.inr ⟨by rfl, rfl⟩) ?_ ?_
        rotate_left
        ·simp only [Act.put, List.setIfInBounds_toArray, List.set_cons_zero, List.set_cons_succ, i64_w, i32_w]
         rfl
        refine pure_ (i := 8) (N := some 28) (v := undef) (a' := ?_) #[true, true, true, true, true, true, true, true, true, false, false, false] rfl rfl (any_of HT_.out (by kernel_rfl)) (fun _ _ _ h => h) (Or.inr ⟨by rfl, rfl⟩) ?_ ?_
        rotate_left
        ·simp only [Act.put, List.setIfInBounds_toArray, List.set_cons_zero, List.set_cons_succ, i64_w, i32_w]
         rfl
        refine pure_ (i := 9) (N := some 29) (v := undef) (a' := ?_) #[true, true, true, true, true, true, true, true, true, true, false, false] rfl rfl (any_of HT_.out (by kernel_rfl)) (fun _ _ _ h => h) (Or.inr ⟨by rfl, rfl⟩) ?_ ?_
        rotate_left
        ·simp only [Act.put, List.setIfInBounds_toArray, List.set_cons_zero, List.set_cons_succ, i64_w, i32_w]
         rfl
        refine pure_ (i := 10) (N := some 30) (v := undef) (a' := ?_) #[true, true, true, true, true, true, true, true, true, true, true, false] rfl rfl (any_of HT_.out (by kernel_rfl)) (fun _ _ _ h => h) (Or.inr ⟨by rfl, rfl⟩) ?_ ?_
        rotate_left
        ·simp only [Act.put, List.setIfInBounds_toArray, List.set_cons_zero, List.set_cons_succ, i64_w, i32_w]
         rfl
        refine zp 11 31 ?_
        refine done_ (done_of HT_.out (by kernel_rfl)) ?_
        try go_wp2
        have n0_ := Aside0.mk (blk_drew BK61.out)
        have n1_ := Aside0.mk (below_drew1 HB.out)
        clear BK61
        clear HB
        have BK61 := n0_
        have HB := n1_
        clear n0_ n1_
        have q50 : (x5_1 : Int) ≤ ((l0.length : Int) : Int) := of_decide_eq_true za
        obtain ⟨i050, hi050, _, hsz50, _⟩ := info_parts info55
        have hroom50 : l0.length ≤ c0 := HC0.out
        have hC50 : Kd.C k55 _ A0 l0.length l0 := HR0.out
        have hcut50 := cut_to (P := Tryz.prog) 35 55 .i64 Tryz.underlying35 hi050 A0 l0.length c0 x5_1 (of_decide_eq_true za) q50 hroom50
        have hr50 := Kd.C_take (m := (x5_1 : Int).toNat) hC50 (by omega)
        have hy50 : y77.length = (x5_1 : Int).toNat := (by rw [Ny77.out, List.length_take]; omega)
        rw [← Ny77.out] at hr50
        rw [← hy50] at hcut50
        have HR176 := Aside0.mk hr50
        have HC176 := Aside0.mk (show y77.length ≤ c0 from by omega)
        clear hr50 hC50 hroom50 hi050 hsz50
        have KY50 := Aside0.mk hy50
        clear hy50
        replace q50 := eq_true q50
        have q51 : (x5_1 : Int) ≤ ((l0.length : Int) : Int) := of_decide_eq_true za
        obtain ⟨i051, hi051, _, hsz51, _⟩ := info_parts info55
        have hroom51 : l0.length ≤ c0 := HC0.out
        have hC51 : Kd.C k55 _ A0 l0.length l0 := HR0.out
        have q051 : (0 : Int) ≤ (x5_1 : Int) := of_decide_eq_true za
        have hcut51 := cut_from (P := Tryz.prog) 35 55 .i64 Tryz.underlying35 hi051 2 hsz51 A0 l0.length c0 x5_1 q051 q51
        have hr51 := Kd.C_drop (m := (x5_1 : Int).toNat) (c := c0) hC51 (by omega) hroom51
        obtain ⟨A51, hA51⟩ : ∃ A1, A1 = (if c0 = (x5_1 : Int).toNat then A0 else (A0 : Option Addr).map (·.add ((x5_1 : Int).toNat * 2))) := ⟨_, rfl⟩
        obtain ⟨c51, hc51⟩ : ∃ c1, c1 = c0 - (x5_1 : Int).toNat := ⟨_, rfl⟩
        have hy51 : y67.length = l0.length - (x5_1 : Int).toNat := (by rw [Ny67.out, List.length_drop] <;> omega)
        rw [show (l0).drop (x5_1 : Int).toNat = y67 from Ny67.out.symm] at hr51
        replace hr51 : Kd.C k55 _ A51 y67.length y67 := (by rw [hA51]; exact hr51)
        rw [← hy51, ← hA51, ← hc51] at hcut51
        have HR189 := Aside0.mk hr51
        have HC189 := Aside0.mk (show y67.length ≤ c51 from by rw [hy51, hc51]; exact Nat.sub_le_sub_right hroom51 _)
        clear hr51 hC51 hroom51 hi051 hsz51 hc51
        have KY51 := Aside0.mk hy51
        have KA51 := Aside0.mk hA51
        clear hy51 hA51
        replace q51 := eq_true q51
        refine start_ (n := 13) (S := fun w' => w'.cell? ⟨gb61, 0, none⟩ = some (.int .i64 a1_0) ∧ w'.cell? ⟨gb61, 1, none⟩ = some (.int .i64 a1_1)) (ds := []) #[false, false, false, false, false, false, false, false, false, false, false, false, false] (by kernel_rfl) rfl rfl ⟨(blk_cell BK61.out 0).trans rfl, (blk_cell BK61.out 1).trans rfl⟩ (fun hHeld => ?_); refine with_tabW spec_l8Add.tab6 spec_l8Add.bits6 (fun HT_ HW_ => ?_)
        generalize w48.drew = w49 at BK61 HB HR176 HR189 hHeld ⊢
        refine zp 1 36 ?_; refine zp 2 37 ?_; refine zp 3 38 ?_; refine zp 8 43 ?_; refine zp 9 44 ?_; refine zp 10 45 ?_; refine zt 5 40 ?_
        refine join_ (σ := Value × Value × Value) 3 #[true, true, true, true, true, true, true, false, true, true, true, false, false] (fun s_ => [(35, s_.1), (39, s_.2.1), (41, s_.2.2)]) (fun s_ w' => (w'.cell? ⟨gb61, 0, none⟩ = some (.int .i64 a1_0) ∧ w'.cell? ⟨gb61, 1, none⟩ = some (.int .i64 a1_1)) ∧ (Kd.R k55 55 w' w.heap.size (fun k_ => some k_ ≠ (s_.2.2 : Value).ownBlock ∧ k_ ≠ gb61) s_.2.1 y76) ∧ (Kd.R k55 55 w' w.heap.size (fun k_ => some k_ ≠ (s_.2.1 : Value).ownBlock ∧ k_ ≠ gb61) s_.2.2 y70) ∧ (w'.heap[gb61]? = some (.cells #[.int .i64 a1_0, .int .i64 a1_1] 55 (0, 0))) ∧ (Below w.heap.size w w')) ?_ ?_
        rotate_left
        ·intro hCont
         refine two_ (i := 0) (j := 6) (Ni := some 35) (Nj := some 41) #[true, true, true, true, false, true, false, false, true, true, true, false, false] #[false, true, true, true, false, true, true, false, true, true, true, false, false] rfl rfl rfl rfl (two_of HT_.out (by kernel_rfl)) (by decide) (by decide) (fun K hK => ?_) (fun K hK => ?_)
         ·skip
          refine Kd.R_lit_step k55 _ 55 ?hg (N := 35) ?hd (xs := ([] : List (S55))) (inner := []) (ok := fun _ => True) (okp := fun _ => True) ?hr ?hp (fun _ hk => hk) trivial (Below.refl _ _) (Nat.le_refl _) (by simp) ?_; (case hd => rfl); (case hg => rfl); (case hr => first | (go_simp; done) | (go_simp; rfl)); (case hp => exact (Reps.none _ _))
          intro v92 w52 ho53 hb hg_ hnew_
          clear hg_ hnew_
          (first | rw [← Ny79.out] at ho53 | (simp only [Int.reduceToNat] at ho53; rw [← Ny79.out] at ho53))
          have n0_ := Aside0.mk (Kd.R_lower (Kd.R_newB ho53 (g := gb61) (o := .cells #[.int .i64 a1_0, .int .i64 a1_1] 55 (0, 0)) zk) (below_size zb))
          have n1_ := Aside0.mk (blk_below (g := gb61) (o := .cells #[.int .i64 a1_0, .int .i64 a1_1] 55 (0, 0)) zk hb)
          have n2_ := Aside0.mk (below_step zb hb)
          clear BK61
          clear HB
          have HO81 := n0_
          have BK61 := n1_
          have HB := n2_
          clear n0_ n1_ n2_
          clear hb ho53
          refine hK.out _ _ ⟨(blk_cell BK61.out 0).trans rfl, (blk_cell BK61.out 1).trans rfl⟩ (fun hHeld => ?_)
          clear hK K
          refine norm_ (a' := ?_) ?_ ?_
          rotate_left
          ·show Act.put _ (some 35) _ = _
           simp only [Act.put, List.setIfInBounds_toArray, List.set_cons_zero, List.set_cons_succ, i64_w, i32_w]
           rfl
          refine two_ (i := 4) (j := 6) (Ni := some 39) (Nj := some 41) #[true, true, true, true, true, true, false, false, true, true, true, false, false] #[true, true, true, true, false, true, true, false, true, true, true, false, false] rfl rfl rfl rfl (two_of HT_.out (by kernel_rfl)) (by decide) (by decide) (fun K hK => ?_) (fun K hK => ?_)
          ·skip
           refine Kd.R_append_rows_step k55 (w0 := w) w.heap.size (by rfl) (.tmp 35) (.tmp 38) 35 55 (.agg #[(.int .i64 0), (.int .i64 0)]) 16 rfl Tryz.underlying35 info55 rfl (by decide) (by omega) v92 y79 y77 _ _ _ (fun k_ => k_ ≠ gb61) (fun _ => False) rfl rfl ?aO ?aR (fun _ _ h => h) (fun _ h => h.elim) ?aF ?aB ?aS ?aL ?_
           (case aR => repeat (first | exact (Kd.C_below HR176.out HB.out) | (with_reducible first | refine Kd.C_alloc ?_ _ | refine Kd.C_drewN ?_ _ | refine Kd.C_drew ?_)))
           (case aB => exact zb)
           (case aF => exact (fun k_ hk => Kd.freshB (g := gb61) (o := .cells #[.int .i64 a1_0, .int .i64 a1_1] 55 (0, 0)) zk k_ hk))
           (case aO => exact (by (with_reducible repeat (first | apply Kd.R_alloc | apply Kd.R_drewN | apply Kd.R_drew)); exact Kd.R_mono HO81.out (fun _ hk => hk.2)))
           (case aS => exact (below_size zb))
           (case aL => have := LMc42.out; omega)
           intro v90 w54 ho hb hg hat
           rw [← Ny76.out] at ho
           have n0_ := Aside0.mk (blk_grown (g := gb61) (o := .cells #[.int .i64 a1_0, .int .i64 a1_1] 55 (0, 0)) zk hg (Kd.R_away HO81.out (fun _ hk => hk.2)))
           have n1_ := Aside0.mk (hb)
           have n2_ := Aside0.mk (ho)
           clear BK61
           clear HB
           clear HO81
           have BK61 := n0_
           have HB := n1_
           have HO83 := n2_
           clear n0_ n1_ n2_
           clear ho hb hg hat
           refine hK.out _ _ ⟨(blk_cell BK61.out 0).trans rfl, (blk_cell BK61.out 1).trans rfl⟩ (fun hHeld => ?_)
           clear hK K
           refine norm_ (a' := ?_) ?_ ?_
           rotate_left
           ·show Act.put _ (some 39) _ = _
            simp only [Act.put, List.setIfInBounds_toArray, List.set_cons_zero, List.set_cons_succ, i64_w, i32_w]
            rfl
           refine one_ (i := 6) (N := some 41) #[true, true, true, true, true, true, true, false, true, true, true, false, false] rfl rfl (one_of HT_.out (by kernel_rfl)) (by decide) (fun K hK => ?_)
           refine Kd.R_lit_step k55 _ 55 ?hg (N := 41) ?hd (xs := ([(⟨a1_0, a1_1⟩ : S55)] : List (S55))) (inner := [.int .i64 a1_0, .int .i64 a1_1]) (ok := fun _ => True) (okp := fun _ => True) ?hr ?hp (fun _ hk => hk) trivial (Below.refl _ _) (Nat.le_refl _) (by simp) ?_; (case hd => rfl); (case hg => rfl); (case hr => first | (go_simp; done) | (go_simp; rfl)); (case hp => exact (Reps.c2 (show Kd.M k55 _ _ _ (⟨a1_0, a1_1⟩ : S55) [.int .i64 a1_0, .int .i64 a1_1] from (k55_mkM _ _ _ (⟨a1_0, a1_1⟩ : S55) )) (Reps.none _ _)))
           intro v85 w55 ho56 hb hg_ hnew_
           clear hg_ hnew_
           (first | rw [← Ny70.out] at ho56 | (simp only [Int.reduceToNat] at ho56; rw [← Ny70.out] at ho56))
           have n0_ := Aside0.mk (Kd.R_elder' (by (with_reducible repeat (first | apply Kd.R_alloc | apply Kd.R_drewN | apply Kd.R_drew)); exact HO83.out) (Kd.R_base ho56) hb)
           have n1_ := Aside0.mk (Kd.R_lower (Kd.R_newB (Kd.R_new' ho56 (Kd.R_lt (by (with_reducible repeat (first | apply Kd.R_alloc | apply Kd.R_drewN | apply Kd.R_drew)); exact HO83.out))) (g := gb61) (o := .cells #[.int .i64 a1_0, .int .i64 a1_1] 55 (0, 0)) zk) (below_size zb))
           have n2_ := Aside0.mk (blk_below (g := gb61) (o := .cells #[.int .i64 a1_0, .int .i64 a1_1] 55 (0, 0)) zk hb)
           have n3_ := Aside0.mk (below_step zb hb)
           clear HO83
           clear BK61
           clear HB
           have HO83 := n0_
           have HO72 := n1_
           have BK61 := n2_
           have HB := n3_
           clear n0_ n1_ n2_ n3_
           clear hb ho56
           refine hK.out _ _ ⟨(blk_cell BK61.out 0).trans rfl, (blk_cell BK61.out 1).trans rfl⟩ (fun hHeld => ?_)
           clear hK K
           refine norm_ (a' := ?_) ?_ ?_
           rotate_left
           ·show Act.put _ (some 41) _ = _
            simp only [Act.put, List.setIfInBounds_toArray, List.set_cons_zero, List.set_cons_succ, i64_w, i32_w]
            rfl
           exact norm_ (by simp only [putAll, Act.put, List.setIfInBounds_toArray, List.set_cons_zero, List.set_cons_succ]) (hCont (v92, v90, v85) _ ⟨hHeld, (by (with_reducible repeat (first | apply Kd.R_alloc | apply Kd.R_drewN | apply Kd.R_drew)); exact Kd.R_mono HO83.out (fun _ hk => ⟨hk.2, hk.1⟩)), (by (with_reducible repeat (first | apply Kd.R_alloc | apply Kd.R_drewN | apply Kd.R_drew)); exact Kd.R_mono HO72.out (fun _ hk => ⟨hk.1.2, hk.2⟩)), zk, zb⟩)
          skip
          refine Kd.R_lit_step k55 _ 55 ?hg (N := 41) ?hd (xs := ([(⟨a1_0, a1_1⟩ : S55)] : List (S55))) (inner := [.int .i64 a1_0, .int .i64 a1_1]) (ok := fun _ => True) (okp := fun _ => True) ?hr ?hp (fun _ hk => hk) trivial (Below.refl _ _) (Nat.le_refl _) (by simp) ?_; (case hd => rfl); (case hg => rfl); (case hr => first | (go_simp; done) | (go_simp; rfl)); (case hp => exact (Reps.c2 (show Kd.M k55 _ _ _ (⟨a1_0, a1_1⟩ : S55) [.int .i64 a1_0, .int .i64 a1_1] from (k55_mkM _ _ _ (⟨a1_0, a1_1⟩ : S55) )) (Reps.none _ _)))
          intro v85 w54 ho55 hb hg_ hnew_
          clear hg_ hnew_
          (first | rw [← Ny70.out] at ho55 | (simp only [Int.reduceToNat] at ho55; rw [← Ny70.out] at ho55))
          have n0_ := Aside0.mk (Kd.R_elder' (by (with_reducible repeat (first | apply Kd.R_alloc | apply Kd.R_drewN | apply Kd.R_drew)); exact HO81.out) (Kd.R_base ho55) hb)
          have n1_ := Aside0.mk (Kd.R_lower (Kd.R_newB (Kd.R_new' ho55 (Kd.R_lt (by (with_reducible repeat (first | apply Kd.R_alloc | apply Kd.R_drewN | apply Kd.R_drew)); exact HO81.out))) (g := gb61) (o := .cells #[.int .i64 a1_0, .int .i64 a1_1] 55 (0, 0)) zk) (below_size zb))
          have n2_ := Aside0.mk (blk_below (g := gb61) (o := .cells #[.int .i64 a1_0, .int .i64 a1_1] 55 (0, 0)) zk hb)
          have n3_ := Aside0.mk (below_step zb hb)
          clear HO81
          clear BK61
          clear HB
          have HO81 := n0_
          have HO72 := n1_
          have BK61 := n2_
          have HB := n3_
          clear n0_ n1_ n2_ n3_
          clear hb ho55
          refine hK.out _ _ ⟨(blk_cell BK61.out 0).trans rfl, (blk_cell BK61.out 1).trans rfl⟩ (fun hHeld => ?_)
          clear hK K
          refine norm_ (a' := ?_) ?_ ?_
          rotate_left
          ·show Act.put _ (some 41) _ = _
           simp only [Act.put, List.setIfInBounds_toArray, List.set_cons_zero, List.set_cons_succ, i64_w, i32_w]
           rfl
          refine one_ (i := 4) (N := some 39) #[true, true, true, true, true, true, true, false, true, true, true, false, false] rfl rfl (one_of HT_.out (by kernel_rfl)) (by decide) (fun K hK => ?_)
          refine Kd.R_append_rows_step k55 (w0 := w) w.heap.size (by rfl) (.tmp 35) (.tmp 38) 35 55 (.agg #[(.int .i64 0), (.int .i64 0)]) 16 rfl Tryz.underlying35 info55 rfl (by decide) (by omega) v92 y79 y77 _ _ _ (fun k_ => some k_ ≠ (v85 : Value).ownBlock ∧ k_ ≠ gb61) (fun _ => False) rfl rfl ?aO ?aR (fun _ _ h => h) (fun _ h => h.elim) ?aF ?aB ?aS ?aL ?_
          (case aR => repeat (first | exact (Kd.C_below HR176.out HB.out) | (with_reducible first | refine Kd.C_alloc ?_ _ | refine Kd.C_drewN ?_ _ | refine Kd.C_drew ?_)))
          (case aB => exact zb)
          (case aF => exact (fun k_ hk => ⟨Kd.fresh' (Kd.R_lt (by (with_reducible repeat (first | apply Kd.R_alloc | apply Kd.R_drewN | apply Kd.R_drew)); exact HO72.out)) k_ hk, Kd.freshB (g := gb61) (o := .cells #[.int .i64 a1_0, .int .i64 a1_1] 55 (0, 0)) zk k_ hk⟩))
          (case aO => exact (by (with_reducible repeat (first | apply Kd.R_alloc | apply Kd.R_drewN | apply Kd.R_drew)); exact Kd.R_mono HO81.out (fun _ hk => ⟨hk.2, hk.1.2⟩)))
          (case aS => exact (below_size zb))
          (case aL => have := LMc42.out; omega)
          intro v90 w56 ho hb hg hat
          rw [← Ny76.out] at ho
          have n0_ := Aside0.mk (blk_grown (g := gb61) (o := .cells #[.int .i64 a1_0, .int .i64 a1_1] 55 (0, 0)) zk hg (Kd.R_away HO81.out (fun _ hk => hk.1.2)))
          have n1_ := Aside0.mk (Kd.R_after (ok := (fun k_ => k_ ≠ gb61)) (by (with_reducible repeat (first | apply Kd.R_alloc | apply Kd.R_drewN | apply Kd.R_drew)); exact Kd.R_mono HO72.out (fun _ hk => ⟨hk.2, hk.1.2⟩)) hg hat)
          have n2_ := Aside0.mk (hb)
          have n3_ := Aside0.mk (ho)
          clear BK61
          clear HO72
          clear HB
          clear HO81
          have BK61 := n0_
          have HO72 := n1_
          have HB := n2_
          have HO83 := n3_
          clear n0_ n1_ n2_ n3_
          clear ho hb hg hat
          refine hK.out _ _ ⟨(blk_cell BK61.out 0).trans rfl, (blk_cell BK61.out 1).trans rfl⟩ (fun hHeld => ?_)
          clear hK K
          refine norm_ (a' := ?_) ?_ ?_
          rotate_left
          ·show Act.put _ (some 39) _ = _
           simp only [Act.put, List.setIfInBounds_toArray, List.set_cons_zero, List.set_cons_succ, i64_w, i32_w]
           rfl
          exact norm_ (by simp only [putAll, Act.put, List.setIfInBounds_toArray, List.set_cons_zero, List.set_cons_succ]) (hCont (v92, v90, v85) _ ⟨hHeld, (by (with_reducible repeat (first | apply Kd.R_alloc | apply Kd.R_drewN | apply Kd.R_drew)); exact HO83.out), (by (with_reducible repeat (first | apply Kd.R_alloc | apply Kd.R_drewN | apply Kd.R_drew)); exact Kd.R_mono HO72.out (fun _ hk => ⟨hk.2, hk.1⟩)), zk, zb⟩)
         skip
         refine Kd.R_lit_step k55 _ 55 ?hg (N := 41) ?hd (xs := ([(⟨a1_0, a1_1⟩ : S55)] : List (S55))) (inner := [.int .i64 a1_0, .int .i64 a1_1]) (ok := fun _ => True) (okp := fun _ => True) ?hr ?hp (fun _ hk => hk) trivial (Below.refl _ _) (Nat.le_refl _) (by simp) ?_; (case hd => rfl); (case hg => rfl); (case hr => first | (go_simp; done) | (go_simp; rfl)); (case hp => exact (Reps.c2 (show Kd.M k55 _ _ _ (⟨a1_0, a1_1⟩ : S55) [.int .i64 a1_0, .int .i64 a1_1] from (k55_mkM _ _ _ (⟨a1_0, a1_1⟩ : S55) )) (Reps.none _ _)))
         intro v85 w52 ho53 hb hg_ hnew_
         clear hg_ hnew_
         (first | rw [← Ny70.out] at ho53 | (simp only [Int.reduceToNat] at ho53; rw [← Ny70.out] at ho53))
         have n0_ := Aside0.mk (Kd.R_lower (Kd.R_newB ho53 (g := gb61) (o := .cells #[.int .i64 a1_0, .int .i64 a1_1] 55 (0, 0)) zk) (below_size zb))
         have n1_ := Aside0.mk (blk_below (g := gb61) (o := .cells #[.int .i64 a1_0, .int .i64 a1_1] 55 (0, 0)) zk hb)
         have n2_ := Aside0.mk (below_step zb hb)
         clear BK61
         clear HB
         have HO72 := n0_
         have BK61 := n1_
         have HB := n2_
         clear n0_ n1_ n2_
         clear hb ho53
         refine hK.out _ _ ⟨(blk_cell BK61.out 0).trans rfl, (blk_cell BK61.out 1).trans rfl⟩ (fun hHeld => ?_)
         clear hK K
         refine norm_ (a' := ?_) ?_ ?_
         rotate_left
         ·show Act.put _ (some 41) _ = _
          simp only [Act.put, List.setIfInBounds_toArray, List.set_cons_zero, List.set_cons_succ, i64_w, i32_w]
          rfl
         refine one_ (i := 0) (N := some 35) #[true, true, true, true, false, true, true, false, true, true, true, false, false] rfl rfl (one_of HT_.out (by kernel_rfl)) (by decide) (fun K hK => ?_)
         refine Kd.R_lit_step k55 _ 55 ?hg (N := 35) ?hd (xs := ([] : List (S55))) (inner := []) (ok := fun _ => True) (okp := fun _ => True) ?hr ?hp (fun _ hk => hk) trivial (Below.refl _ _) (Nat.le_refl _) (by simp) ?_; (case hd => rfl); (case hg => rfl); (case hr => first | (go_simp; done) | (go_simp; rfl)); (case hp => exact (Reps.none _ _))
         intro v92 w54 ho55 hb hg_ hnew_
         clear hg_ hnew_
         (first | rw [← Ny79.out] at ho55 | (simp only [Int.reduceToNat] at ho55; rw [← Ny79.out] at ho55))
         have n0_ := Aside0.mk (Kd.R_elder' (by (with_reducible repeat (first | apply Kd.R_alloc | apply Kd.R_drewN | apply Kd.R_drew)); exact HO72.out) (Kd.R_base ho55) hb)
         have n1_ := Aside0.mk (Kd.R_lower (Kd.R_newB (Kd.R_new' ho55 (Kd.R_lt (by (with_reducible repeat (first | apply Kd.R_alloc | apply Kd.R_drewN | apply Kd.R_drew)); exact HO72.out))) (g := gb61) (o := .cells #[.int .i64 a1_0, .int .i64 a1_1] 55 (0, 0)) zk) (below_size zb))
         have n2_ := Aside0.mk (blk_below (g := gb61) (o := .cells #[.int .i64 a1_0, .int .i64 a1_1] 55 (0, 0)) zk hb)
         have n3_ := Aside0.mk (below_step zb hb)
         clear HO72
         clear BK61
         clear HB
         have HO72 := n0_
         have HO81 := n1_
         have BK61 := n2_
         have HB := n3_
         clear n0_ n1_ n2_ n3_
         clear hb ho55
         refine hK.out _ _ ⟨(blk_cell BK61.out 0).trans rfl, (blk_cell BK61.out 1).trans rfl⟩ (fun hHeld => ?_)
         clear hK K
         refine norm_ (a' := ?_) ?_ ?_
         rotate_left
         ·show Act.put _ (some 35) _ = _
          simp only [Act.put, List.setIfInBounds_toArray, List.set_cons_zero, List.set_cons_succ, i64_w, i32_w]
          rfl
         refine one_ (i := 4) (N := some 39) #[true, true, true, true, true, true, true, false, true, true, true, false, false] rfl rfl (one_of HT_.out (by kernel_rfl)) (by decide) (fun K hK => ?_)
         refine Kd.R_append_rows_step k55 (w0 := w) w.heap.size (by rfl) (.tmp 35) (.tmp 38) 35 55 (.agg #[(.int .i64 0), (.int .i64 0)]) 16 rfl Tryz.underlying35 info55 rfl (by decide) (by omega) v92 y79 y77 _ _ _ (fun k_ => some k_ ≠ (v85 : Value).ownBlock ∧ k_ ≠ gb61) (fun _ => False) rfl rfl ?aO ?aR (fun _ _ h => h) (fun _ h => h.elim) ?aF ?aB ?aS ?aL ?_
         (case aR => repeat (first | exact (Kd.C_below HR176.out HB.out) | (with_reducible first | refine Kd.C_alloc ?_ _ | refine Kd.C_drewN ?_ _ | refine Kd.C_drew ?_)))
         (case aB => exact zb)
         (case aF => exact (fun k_ hk => ⟨Kd.fresh' (Kd.R_lt (by (with_reducible repeat (first | apply Kd.R_alloc | apply Kd.R_drewN | apply Kd.R_drew)); exact HO72.out)) k_ hk, Kd.freshB (g := gb61) (o := .cells #[.int .i64 a1_0, .int .i64 a1_1] 55 (0, 0)) zk k_ hk⟩))
         (case aO => exact (by (with_reducible repeat (first | apply Kd.R_alloc | apply Kd.R_drewN | apply Kd.R_drew)); exact Kd.R_mono HO81.out (fun _ hk => ⟨hk.1.2, hk.2⟩)))
         (case aS => exact (below_size zb))
         (case aL => have := LMc42.out; omega)
         intro v90 w56 ho hb hg hat
         rw [← Ny76.out] at ho
         have n0_ := Aside0.mk (blk_grown (g := gb61) (o := .cells #[.int .i64 a1_0, .int .i64 a1_1] 55 (0, 0)) zk hg (Kd.R_away HO81.out (fun _ hk => hk.2)))
         have n1_ := Aside0.mk (Kd.R_after (ok := (fun k_ => k_ ≠ gb61)) (by (with_reducible repeat (first | apply Kd.R_alloc | apply Kd.R_drewN | apply Kd.R_drew)); exact Kd.R_mono HO72.out (fun _ hk => ⟨hk.1.2, hk.2⟩)) hg hat)
         have n2_ := Aside0.mk (hb)
         have n3_ := Aside0.mk (ho)
         clear BK61
         clear HO72
         clear HB
         clear HO81
         have BK61 := n0_
         have HO72 := n1_
         have HB := n2_
         have HO83 := n3_
         clear n0_ n1_ n2_ n3_
         clear ho hb hg hat
         refine hK.out _ _ ⟨(blk_cell BK61.out 0).trans rfl, (blk_cell BK61.out 1).trans rfl⟩ (fun hHeld => ?_)
         clear hK K
         refine norm_ (a' := ?_) ?_ ?_
         rotate_left
         ·show Act.put _ (some 39) _ = _
          simp only [Act.put, List.setIfInBounds_toArray, List.set_cons_zero, List.set_cons_succ, i64_w, i32_w]
          rfl
         exact norm_ (by simp only [putAll, Act.put, List.setIfInBounds_toArray, List.set_cons_zero, List.set_cons_succ]) (hCont (v92, v90, v85) _ ⟨hHeld, (by (with_reducible repeat (first | apply Kd.R_alloc | apply Kd.R_drewN | apply Kd.R_drew)); exact HO83.out), (by (with_reducible repeat (first | apply Kd.R_alloc | apply Kd.R_drewN | apply Kd.R_drew)); exact Kd.R_mono HO72.out (fun _ hk => ⟨hk.2, hk.1⟩)), zk, zb⟩)
        rintro ⟨v92, v90, v85⟩ w57 ⟨hS_, h0_, h1_, h2_, h3_⟩
        have n0_ : Aside0 (Kd.R k55 55 w57 w.heap.size (fun k_ => some k_ ≠ (v85 : Value).ownBlock ∧ k_ ≠ gb61) v90 y76) := ⟨h0_⟩
        have n1_ : Aside0 (Kd.R k55 55 w57 w.heap.size (fun k_ => some k_ ≠ (v90 : Value).ownBlock ∧ k_ ≠ gb61) v85 y70) := ⟨h1_⟩
        have n2_ : Aside0 (w57.heap[gb61]? = some (.cells #[.int .i64 a1_0, .int .i64 a1_1] 55 (0, 0))) := ⟨h2_⟩
        have n3_ : Aside0 (Below w.heap.size w w57) := ⟨h3_⟩
        clear BK61
        clear HB
        clear h0_ h1_ h2_ h3_
        have HO83 := n0_
        have HO72 := n1_
        have BK61 := n2_
        have HB := n3_
        clear n0_ n1_ n2_ n3_
        have hHeld : w57.cell? ⟨gb61, 0, none⟩ = some (.int .i64 a1_0) ∧ w57.cell? ⟨gb61, 1, none⟩ = some (.int .i64 a1_1) := hS_
        obtain ⟨Ao59, co59, eo59⟩ := Kd.R_slice HO72.out
        (first | subst eo59 | (injection eo59 with f1_ f2_ f3_; have f4_ := f1_.symm; have f5_ := f3_.symm; clear f1_ f2_ f3_; subst f4_; subst f5_))
        refine norm_ (a' := ?_) ?_ ?_
        rotate_left
        ·simp only [putAll, Act.put, List.setIfInBounds_toArray, List.set_cons_zero, List.set_cons_succ]
         rfl
        refine one_ (i := 7) (N := some 42) #[true, true, true, true, true, true, true, true, true, true, true, false, false] rfl rfl (one_of HT_.out (by kernel_rfl)) (by decide) (fun K hK => ?_)
        refine Kd.R_append_rows_step k55 (w0 := w) w.heap.size (by rfl) (.tmp 39) (.tmp 41) 35 55 (.agg #[(.int .i64 0), (.int .i64 0)]) 16 rfl Tryz.underlying35 info55 rfl (by decide) (by omega) v90 y76 y70 _ _ _ (fun k_ => some k_ ≠ (.slice Ao59 y70.length co59 : Value).ownBlock ∧ k_ ≠ gb61) (fun _ => False) rfl rfl ?aO ?aR (fun _ _ h => h) (fun _ h => h.elim) ?aF ?aB ?aS ?aL ?_
        (case aR => repeat (first | exact (Kd.R_reads' HO72.out).2.2 | (with_reducible first | refine Kd.C_alloc ?_ _ | refine Kd.C_drewN ?_ _ | refine Kd.C_drew ?_)))
        (case aB => exact zb)
        (case aF => exact (fun k_ hk => ⟨Kd.fresh' (Kd.R_lt (by (with_reducible repeat (first | apply Kd.R_alloc | apply Kd.R_drewN | apply Kd.R_drew)); exact HO72.out)) k_ hk, Kd.freshB (g := gb61) (o := .cells #[.int .i64 a1_0, .int .i64 a1_1] 55 (0, 0)) zk k_ hk⟩))
        (case aO => exact (by (with_reducible repeat (first | apply Kd.R_alloc | apply Kd.R_drewN | apply Kd.R_drew)); exact HO83.out))
        (case aS => exact (below_size zb))
        (case aL => have := LMc43.out; omega)
        intro v184 w58 ho hb hg hat
        rw [← Ny74.out] at ho
        have n0_ := Aside0.mk (blk_grown (g := gb61) (o := .cells #[.int .i64 a1_0, .int .i64 a1_1] 55 (0, 0)) zk hg (Kd.R_away HO83.out (fun _ hk => hk.2)))
        have n1_ := Aside0.mk (Kd.R_after (ok := (fun k_ => k_ ≠ gb61)) (by (with_reducible repeat (first | apply Kd.R_alloc | apply Kd.R_drewN | apply Kd.R_drew)); exact Kd.R_mono HO72.out (fun _ hk => ⟨hk.2, hk.1⟩)) hg hat)
        have n2_ := Aside0.mk (hb)
        have n3_ := Aside0.mk (ho)
        clear BK61
        clear HO72
        clear HB
        clear HO83
        have BK61 := n0_
        have HO72 := n1_
        have HB := n2_
        have HO95 := n3_
        clear n0_ n1_ n2_ n3_
        clear ho hb hg hat
        refine hK.out _ _ ⟨(blk_cell BK61.out 0).trans rfl, (blk_cell BK61.out 1).trans rfl⟩ (fun hHeld => ?_)
        clear hK K
        refine norm_ (a' := ?_) ?_ ?_
        rotate_left
        ·show Act.put _ (some 42) _ = _
         simp only [Act.put, List.setIfInBounds_toArray, List.set_cons_zero, List.set_cons_succ, i64_w, i32_w]
         rfl
        refine one_ (i := 11) (N := some 46) #[true, true, true, true, true, true, true, true, true, true, true, true, false] rfl rfl (one_of HT_.out (by kernel_rfl)) (by decide) (fun K hK => ?_)
        refine Kd.R_append_rows_step k55 (w0 := w) w.heap.size (by rfl) (.tmp 42) (.tmp 45) 35 55 (.agg #[(.int .i64 0), (.int .i64 0)]) 16 rfl Tryz.underlying35 info55 rfl (by decide) (by omega) v184 y74 y67 _ _ _ (fun k_ => some k_ ≠ (.slice Ao59 y70.length co59 : Value).ownBlock ∧ k_ ≠ gb61) (fun _ => False) rfl rfl ?aO ?aR (fun _ _ h => h) (fun _ h => h.elim) ?aF ?aB ?aS ?aL ?_
        (case aR => repeat (first | exact (Kd.C_below HR189.out HB.out) | (with_reducible first | refine Kd.C_alloc ?_ _ | refine Kd.C_drewN ?_ _ | refine Kd.C_drew ?_)))
        (case aB => exact zb)
        (case aF => exact (fun k_ hk => ⟨Kd.fresh' (Kd.R_lt (by (with_reducible repeat (first | apply Kd.R_alloc | apply Kd.R_drewN | apply Kd.R_drew)); exact HO72.out)) k_ hk, Kd.freshB (g := gb61) (o := .cells #[.int .i64 a1_0, .int .i64 a1_1] 55 (0, 0)) zk k_ hk⟩))
        (case aO => exact (by (with_reducible repeat (first | apply Kd.R_alloc | apply Kd.R_drewN | apply Kd.R_drew)); exact HO95.out))
        (case aS => exact (below_size zb))
        (case aL => have := LMc46.out; omega)
        intro v191 w60 ho hb hg hat
        rw [← Ny89.out] at ho
        have n0_ := Aside0.mk (blk_grown (g := gb61) (o := .cells #[.int .i64 a1_0, .int .i64 a1_1] 55 (0, 0)) zk hg (Kd.R_away HO95.out (fun _ hk => hk.2)))
        have n1_ := Aside0.mk (Kd.R_after (ok := (fun k_ => k_ ≠ gb61)) (by (with_reducible repeat (first | apply Kd.R_alloc | apply Kd.R_drewN | apply Kd.R_drew)); exact HO72.out) hg hat)
        have n2_ := Aside0.mk (hb)
        have n3_ := Aside0.mk (ho)
        clear BK61
        clear HO72
        clear HB
        clear HO95
        have BK61 := n0_
        have HO72 := n1_
        have HB := n2_
        have HO192 := n3_
        clear n0_ n1_ n2_ n3_
        clear ho hb hg hat
        refine hK.out _ _ ⟨(blk_cell BK61.out 0).trans rfl, (blk_cell BK61.out 1).trans rfl⟩ (fun hHeld => ?_)
        clear hK K
        refine norm_ (a' := ?_) ?_ ?_
        rotate_left
        ·show Act.put _ (some 46) _ = _
         simp only [Act.put, List.setIfInBounds_toArray, List.set_cons_zero, List.set_cons_succ, i64_w, i32_w]
         rfl
        refine zp 12 4 ?_
        refine done_ (done_of HT_.out (by kernel_rfl)) ?_
        try go_wp2
        go_ret
        exact ⟨_, ze, by (with_reducible repeat (first | apply Kd.R_alloc | apply Kd.R_drewN | apply Kd.R_drew)); exact Kd.R_mono HO192.out (fun _ hk => trivial), zb⟩
       rw [if_neg c46] at H
       exact absurd H (by simp)
      rw [if_neg c43] at H
      exact absurd H (by simp)
     rw [if_neg c42] at H
     exact absurd H (by simp)
    rw [if_neg c41] at H
    exact absurd H (by simp)
   rw [if_neg c40] at H
   exact absurd H (by simp)
end Go.Proofs.YtocdahbinombkaaGreat.P
