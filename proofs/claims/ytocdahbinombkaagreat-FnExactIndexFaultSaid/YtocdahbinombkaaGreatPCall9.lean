import Derived.Test.YtocdahbinombkaaGreatP0
import Derived.Test.YtocdahbinombkaaGreatPDall0
import Derived.Test.YtocdahbinombkaaGreatWRepsOne
import Derived.Test.YtocdahbinombkaaGreatWTab
import Derived.Test.YtocdahbinombkaaGreatZz
import Derived.Test.YtocdahbinombkaaGreatLb
import Derived.Test.YtocdahbinombkaaGreatLv
import Derived.Test.YtocdahbinombkaaGreatLi
import Derived.IntWalk
import Derived.Shelf.Abstract
import Derived.Shelf.SlSortCmp.NoneTotal
import Derived.Ground.SlsfProg
import Derived.Shelf.Lay
namespace Go.Proofs.YtocdahbinombkaaGreat.P
open Go.RowKit Go.Proofs.YtocdahbinombkaaGreatW.PrintWords Go.Proofs.YtocdahbinombkaaGreatW.PrintLast Go.Proofs.YtocdahbinombkaaGreatW.PrintMore
attribute [local go_sem] max2_int min2_int max_two min_two max_three min_three max_four min_four   -- for this text's walks alone
set_option linter.unusedVariables false
set_option linter.unusedSimpArgs false
set_option maxHeartbeats 8000000 in
set_option maxRecDepth 100000 in
theorem cmp_Or_int.calls (k : Nat) (A0 : Option Addr) (c0 : Nat) (l0 : List Int) (r : Int) (w : World) (hr0 : Kd.C (Kd.int .i64) w A0 l0.length l0) (hc0 : l0.length ≤ c0) (h : cmp_Or_int.f k l0 = some r) :
 Calls Tryz.prog 93 #[.slice A0 l0.length c0] w fun e w' => e = .returned (.int .i64 r) ∧ Drawn0 w w' := by
 have HR0 := Aside0.mk hr0
 have HC0 := Aside0.mk hc0
 clear hr0 hc0
 have H : (cmp_Or_int.l0 k 0 l0 (l0.length : Int) 0) = some r := h
 clear h
 have H' := Aside0.mk H
 clear H
 go_enter Tryz.func93, Tryz.ntmps93
 go_wp2
 go_loopg [8] k (fun kq v8 w' => ∃ (x8_1 : Int), v8 = .int .i64 x8_1 ∧ Aside0 (cmp_Or_int.l0 kq 0 l0 (l0.length : Int) x8_1 = some r) ∧ Aside0 (kq ≤ k) ∧ Drawn0 w w')
 case atStart => exact ⟨(0), zs, H', ⟨Nat.le_refl _⟩, zd⟩
 case round =>
  clear H'
  obtain ⟨x8_1, rfl, HA, HK1, ⟨m1, rfl⟩⟩ := hrel
  cases gk with
  | zero => exact absurd HA.out (by simp [cmp_Or_int.l0])
  | succ k1 =>
   have H := HA.out
   clear HA
   simp only [cmp_Or_int.l0] at H
   by_cases c2 : x8_1 < (l0.length : Int)
   ·rw [if_pos c2] at H
    have c2b0 : decide (x8_1 < (l0.length : Int)) = true := decide_eq_true c2
    clear c2
    by_cases c3 : 0 ≤ x8_1
    ·rw [if_pos c3] at H
     have c3b0 : decide (0 ≤ x8_1) = true := decide_eq_true c3
     clear c3
     by_cases c4 : x8_1 < (l0.length : Int)
     ·rw [if_pos c4] at H
      have c4b0 : decide (x8_1 < (l0.length : Int)) = true := decide_eq_true c4
      clear c4
      by_cases c5 : (rd l0 x8_1) = 0
      ·rw [if_pos c5] at H
       have c5b0 : ((rd l0 x8_1) == 0) = true := beq_iff_eq.mpr c5
       have c5b1 : ((rd l0 x8_1) != 0) = false := bne_eq_false_iff_eq.mpr c5
       clear c5
       have H' := Aside0.mk H
       clear H
       have p296 : 0 ≤ (x8_1 : Int) := of_decide_eq_true za
       have q6 : x8_1 < (l0.length : Int) := of_decide_eq_true za
       obtain ⟨ad6, e296, hx6_0⟩ := Kd.at_int HR0.out x8_1 p296 q6
       cases e296
       replace p296 := eq_true p296
       replace q6 := eq_true q6
       go_wp2
       go_roundg k1
       case measure => have := HK1.out; omega
       case rel => exact ⟨(wrap64 (x8_1 + 1)), zs, H', ⟨by have := HK1.out; omega⟩, zd⟩
      rw [if_neg c5] at H
      have c5b0 : ((rd l0 x8_1) == 0) = false := beq_eq_false_iff_ne.mpr c5
      have c5b1 : ((rd l0 x8_1) != 0) = true := bne_iff_ne.mpr c5
      obtain rfl := Option.some.inj H
      have p296 : 0 ≤ (x8_1 : Int) := of_decide_eq_true za
      have q6 : x8_1 < (l0.length : Int) := of_decide_eq_true za
      obtain ⟨ad6, e296, hx6_0⟩ := Kd.at_int HR0.out x8_1 p296 q6
      cases e296
      replace p296 := eq_true p296
      replace q6 := eq_true q6
      go_wp2
      go_ret
      exact ⟨zs, zd⟩
     rw [if_neg c4] at H
     exact absurd H (by simp)
    rw [if_neg c3] at H
    exact absurd H (by simp)
   rw [if_neg c2] at H
   have c2b0 : decide (x8_1 < (l0.length : Int)) = false := decide_eq_false c2
   clear c2
   obtain rfl := Option.some.inj H
   go_wp2
   go_ret
   exact ⟨zs, zd⟩
set_option maxHeartbeats 8000000 in
set_option maxRecDepth 100000 in
theorem cmp_isNaN_int64.calls (a0 : Int) (r : Bool) (w : World) (h : cmp_isNaN_int64.f a0 = some r) :
 Calls Tryz.prog 106 #[.int .i64 a0] w fun e w' => e = .returned (.bool r) ∧ Drawn0 w w' := by
 have H : (some (a0 != a0)) = some r := h
 clear h
 obtain rfl := Option.some.inj H
 go_enter Tryz.func106, Tryz.ntmps106
 go_wp2
 go_ret
 exact ⟨zs, zd⟩
set_option maxHeartbeats 8000000 in
set_option maxRecDepth 100000 in
theorem cmp_Compare_int64.calls (a0 : Int) (a1 : Int) (r : Int) (w : World) (h : cmp_Compare_int64.f a0 a1 = some r) :
 Calls Tryz.prog 94 #[.int .i64 a0, .int .i64 a1] w fun e w' => e = .returned (.int .i64 r) ∧ Drawn0 w w' := by
 have H : ((cmp_isNaN_int64.f a0).bind fun t12 => ((cmp_isNaN_int64.f a1).bind fun t11 => (if t12 = true then (if t11 = true then (some 0) else (some (-1))) else (if t11 = true then (some 1) else (if a0 < a1 then (some (-1)) else (if a0 > a1 then (some 1) else (some 0))))))) = some r := h
 clear h
 replace H := Option.bind_eq_some_iff.mp H
 obtain ⟨t12, A30, H⟩ := H
 replace H : ((cmp_isNaN_int64.f a1).bind fun t11 => (if t12 = true then (if t11 = true then (some 0) else (some (-1))) else (if t11 = true then (some 1) else (if a0 < a1 then (some (-1)) else (if a0 > a1 then (some 1) else (some 0)))))) = some r := H
 have A3 := Aside0.mk A30
 clear A30
 replace H := Option.bind_eq_some_iff.mp H
 obtain ⟨t11, A40, H⟩ := H
 replace H : (if t12 = true then (if t11 = true then (some 0) else (some (-1))) else (if t11 = true then (some 1) else (if a0 < a1 then (some (-1)) else (if a0 > a1 then (some 1) else (some 0))))) = some r := H
 have A4 := Aside0.mk A40
 clear A40
 by_cases c5 : t12 = true
 ·subst c5
  have H1 : (if t11 = true then (some 0) else (some (-1))) = some r := by rw [if_pos rfl] at H; exact H
  clear H
  have H := H1
  clear H1
  by_cases c6 : t11 = true
  ·subst c6
   have H1 : (some 0) = some r := by rw [if_pos rfl] at H; exact H
   clear H
   have H := H1
   clear H1
   obtain rfl := Option.some.inj H
   go_enter Tryz.func94, Tryz.ntmps94
   go_wp2_with (first | ((with_reducible refine gate_callee (f := 106) rfl ?_); refine goesL_ (some 8) rfl rfl Tryz.func106 (by kernel_rfl) rfl #[.int .i64 a0] rfl zm ?_; (with_reducible refine (cmp_isNaN_int64.calls a0 true _ A3.out).mono ?_); rintro e w' ⟨rfl, ⟨nd, rfl⟩⟩; refine ⟨_, rfl, ?_⟩) | ((with_reducible refine gate_callee (f := 106) rfl ?_); refine goesL_ (some 10) rfl rfl Tryz.func106 (by kernel_rfl) rfl #[.int .i64 a1] rfl zm ?_; (with_reducible refine (cmp_isNaN_int64.calls a1 true _ A4.out).mono ?_); rintro e w' ⟨rfl, ⟨nd, rfl⟩⟩; refine ⟨_, rfl, ?_⟩))
   go_ret
   exact ⟨zs, zd⟩
  replace c6 := Bool.eq_false_iff.mpr c6
  subst c6
  have H1 : (some (-1)) = some r := by rw [if_neg (show ¬ (false = true) by decide)] at H; exact H
  clear H
  have H := H1
  clear H1
  obtain rfl := Option.some.inj H
  go_enter Tryz.func94, Tryz.ntmps94
  go_wp2_with (first | ((with_reducible refine gate_callee (f := 106) rfl ?_); refine goesL_ (some 8) rfl rfl Tryz.func106 (by kernel_rfl) rfl #[.int .i64 a0] rfl zm ?_; (with_reducible refine (cmp_isNaN_int64.calls a0 true _ A3.out).mono ?_); rintro e w' ⟨rfl, ⟨nd, rfl⟩⟩; refine ⟨_, rfl, ?_⟩) | ((with_reducible refine gate_callee (f := 106) rfl ?_); refine goesL_ (some 10) rfl rfl Tryz.func106 (by kernel_rfl) rfl #[.int .i64 a1] rfl zm ?_; (with_reducible refine (cmp_isNaN_int64.calls a1 false _ A4.out).mono ?_); rintro e w' ⟨rfl, ⟨nd, rfl⟩⟩; refine ⟨_, rfl, ?_⟩))
  go_ret
  exact ⟨zs, zd⟩
 replace c5 := Bool.eq_false_iff.mpr c5
 subst c5
 have H1 : (if t11 = true then (some 1) else (if a0 < a1 then (some (-1)) else (if a0 > a1 then (some 1) else (some 0)))) = some r := by rw [if_neg (show ¬ (false = true) by decide)] at H; exact H
 clear H
 have H := H1
 clear H1
 by_cases c7 : t11 = true
 ·subst c7
  have H1 : (some 1) = some r := by rw [if_pos rfl] at H; exact H
  clear H
  have H := H1
  clear H1
  obtain rfl := Option.some.inj H
  go_enter Tryz.func94, Tryz.ntmps94
  go_wp2_with (first | ((with_reducible refine gate_callee (f := 106) rfl ?_); refine goesL_ (some 8) rfl rfl Tryz.func106 (by kernel_rfl) rfl #[.int .i64 a0] rfl zm ?_; (with_reducible refine (cmp_isNaN_int64.calls a0 false _ A3.out).mono ?_); rintro e w' ⟨rfl, ⟨nd, rfl⟩⟩; refine ⟨_, rfl, ?_⟩) | ((with_reducible refine gate_callee (f := 106) rfl ?_); refine goesL_ (some 10) rfl rfl Tryz.func106 (by kernel_rfl) rfl #[.int .i64 a1] rfl zm ?_; (with_reducible refine (cmp_isNaN_int64.calls a1 true _ A4.out).mono ?_); rintro e w' ⟨rfl, ⟨nd, rfl⟩⟩; refine ⟨_, rfl, ?_⟩))
  go_ret
  exact ⟨zs, zd⟩
 replace c7 := Bool.eq_false_iff.mpr c7
 subst c7
 have H1 : (if a0 < a1 then (some (-1)) else (if a0 > a1 then (some 1) else (some 0))) = some r := by rw [if_neg (show ¬ (false = true) by decide)] at H; exact H
 clear H
 have H := H1
 clear H1
 by_cases c8 : a0 < a1
 ·rw [if_pos c8] at H
  have c8b0 : decide (a0 < a1) = true := decide_eq_true c8
  clear c8
  obtain rfl := Option.some.inj H
  go_enter Tryz.func94, Tryz.ntmps94
  go_wp2_with (first | ((with_reducible refine gate_callee (f := 106) rfl ?_); refine goesL_ (some 8) rfl rfl Tryz.func106 (by kernel_rfl) rfl #[.int .i64 a0] rfl zm ?_; (with_reducible refine (cmp_isNaN_int64.calls a0 false _ A3.out).mono ?_); rintro e w' ⟨rfl, ⟨nd, rfl⟩⟩; refine ⟨_, rfl, ?_⟩) | ((with_reducible refine gate_callee (f := 106) rfl ?_); refine goesL_ (some 10) rfl rfl Tryz.func106 (by kernel_rfl) rfl #[.int .i64 a1] rfl zm ?_; (with_reducible refine (cmp_isNaN_int64.calls a1 false _ A4.out).mono ?_); rintro e w' ⟨rfl, ⟨nd, rfl⟩⟩; refine ⟨_, rfl, ?_⟩))
  go_ret
  exact ⟨zs, zd⟩
 rw [if_neg c8] at H
 have c8b0 : decide (a0 < a1) = false := decide_eq_false c8
 clear c8
 by_cases c9 : a0 > a1
 ·rw [if_pos c9] at H
  have c9b0 : decide (a1 < a0) = true := decide_eq_true c9
  clear c9
  obtain rfl := Option.some.inj H
  go_enter Tryz.func94, Tryz.ntmps94
  go_wp2_with (first | ((with_reducible refine gate_callee (f := 106) rfl ?_); refine goesL_ (some 8) rfl rfl Tryz.func106 (by kernel_rfl) rfl #[.int .i64 a0] rfl zm ?_; (with_reducible refine (cmp_isNaN_int64.calls a0 false _ A3.out).mono ?_); rintro e w' ⟨rfl, ⟨nd, rfl⟩⟩; refine ⟨_, rfl, ?_⟩) | ((with_reducible refine gate_callee (f := 106) rfl ?_); refine goesL_ (some 10) rfl rfl Tryz.func106 (by kernel_rfl) rfl #[.int .i64 a1] rfl zm ?_; (with_reducible refine (cmp_isNaN_int64.calls a1 false _ A4.out).mono ?_); rintro e w' ⟨rfl, ⟨nd, rfl⟩⟩; refine ⟨_, rfl, ?_⟩))
  go_ret
  exact ⟨zs, zd⟩
 rw [if_neg c9] at H
 have c9b0 : decide (a1 < a0) = false := decide_eq_false c9
 clear c9
 obtain rfl := Option.some.inj H
 go_enter Tryz.func94, Tryz.ntmps94
 go_wp2_with (first | ((with_reducible refine gate_callee (f := 106) rfl ?_); refine goesL_ (some 8) rfl rfl Tryz.func106 (by kernel_rfl) rfl #[.int .i64 a0] rfl zm ?_; (with_reducible refine (cmp_isNaN_int64.calls a0 false _ A3.out).mono ?_); rintro e w' ⟨rfl, ⟨nd, rfl⟩⟩; refine ⟨_, rfl, ?_⟩) | ((with_reducible refine gate_callee (f := 106) rfl ?_); refine goesL_ (some 10) rfl rfl Tryz.func106 (by kernel_rfl) rfl #[.int .i64 a1] rfl zm ?_; (with_reducible refine (cmp_isNaN_int64.calls a1 false _ A4.out).mono ?_); rintro e w' ⟨rfl, ⟨nd, rfl⟩⟩; refine ⟨_, rfl, ?_⟩))
 go_ret
 exact ⟨zs, zd⟩
def impl_comparePairs.T1 : Bool × List (List Nat × List Nat) := (true, [([], []), ([0], [0]), ([], []), ([2], [2]), ([1, 3], [1, 3]), ([], []), ([5], [5]), ([], []), ([7], [7]), ([6, 8, 4], [6, 8]), ([4, 9], [4, 9]), ([10, 9], [10]), ([11, 11, 0, 1, 2, 3, 4, 5, 6, 7, 8, 9, 10, 11], [11])])
def impl_comparePairs.B1 : List Nat := [0, 1, 0, 4, 15, 0, 32, 0, 128, 511, 1023, 2047, 4095]
theorem impl_comparePairs.tab1 : rtab .any (opsOf Tryz.f70 1) = impl_comparePairs.T1 := by kernel_rfl
theorem impl_comparePairs.bits1 : waitsOk impl_comparePairs.T1.2 impl_comparePairs.B1 = true := by kernel_rfl
set_option maxHeartbeats 8000000 in
set_option maxRecDepth 100000 in
theorem impl_comparePairs.calls (k : Nat) (a0_0 : Int) (a0_1 : Int) (a1_0 : Int) (a1_1 : Int) (r : Int) (w : World) (h : impl_comparePairs.f k a0_0 a0_1 a1_0 a1_1 = some r) :
 Calls Tryz.prog 70 #[.agg #[.int .i64 a0_0, .int .i64 a0_1], .agg #[.int .i64 a1_0, .int .i64 a1_1]] w fun e w' => e = .returned (.int .i64 r) ∧ Below w.heap.size w w' := by
 have hu55 := Tryz.underlying55
 have HB := Aside0.mk (Below.refl w.heap.size w)
 have H : ((cmp_Compare_int64.f a0_0 a1_0).bind fun t21 => ((cmp_Compare_int64.f a0_1 a1_1).bind fun t20 => ((cmp_Or_int.f k (([t21, t20] : List Int))).bind fun t22 => (some t22)))) = some r := h
 clear h
 replace H := Option.bind_eq_some_iff.mp H
 obtain ⟨t21, A30, H⟩ := H
 replace H : ((cmp_Compare_int64.f a0_1 a1_1).bind fun t20 => ((cmp_Or_int.f k (([t21, t20] : List Int))).bind fun t22 => (some t22))) = some r := H
 have A3 := Aside0.mk A30
 clear A30
 replace H := Option.bind_eq_some_iff.mp H
 obtain ⟨t20, A40, H⟩ := H
 replace H : ((cmp_Or_int.f k (([t21, t20] : List Int))).bind fun t22 => (some t22)) = some r := H
 have A4 := Aside0.mk A40
 clear A40
 obtain ⟨y19, hy19⟩ : ∃ y_ : List Int, y_ = (([t21, t20] : List Int)) := ⟨_, rfl⟩
 replace H : ((cmp_Or_int.f k y19).bind fun t22 => (some t22)) = some r := by first | (rw [hy19]; with_reducible exact H) | (have H2_ := (Option.bind_some _ _).symm.trans H; rw [hy19]; with_reducible exact H2_) | (have H2_ := (Option.bind_some _ _).symm.trans H; with_reducible exact H2_) | with_reducible exact H | (rw [hy19]; exact H) | exact H
 have Ny19 := Aside0.mk hy19
 clear hy19
 replace H := Option.bind_eq_some_iff.mp H
 obtain ⟨t22, A50, H⟩ := H
 replace H : (some t22) = some r := H
 have A5 := Aside0.mk A50
 clear A50
 obtain rfl := Option.some.inj H
 go_enter Tryz.func70, Tryz.ntmps70
 try go_wp2_with (first | ((with_reducible refine gate_dst (N := 2) rfl ?_); refine box_event ?hg (N := 2) ?hd (cs := #[.int .i64 a0_0, .int .i64 a0_1]) (t := 55) ?hr ?_; (case hd => rfl); (case hg => rfl); (case hr => first | (go_simp; done) | (go_simp; rfl)); intro gb17 hg w6 hbox hb; have n0_ := Aside0.mk (below_step zb hb); have n1_ := Aside0.mk (hbox); have n2_ := Aside0.mk ((by rw [hg]; exact (below_size zb) : w.heap.size ≤ gb17)); have n3_ := n2_; clear HB; have HB := n0_; have BK17 := n1_; have GW17 := n2_; have GE17 := n3_; clear n0_ n1_ n2_ n3_; clear hb hbox hg) | ((with_reducible refine gate_dst (N := 3) rfl ?_); refine box_event ?hg (N := 3) ?hd (cs := #[.int .i64 a1_0, .int .i64 a1_1]) (t := 55) ?hr ?_; (case hd => rfl); (case hg => rfl); (case hr => first | (go_simp; done) | (go_simp; rfl)); intro gb18 hg w7 hbox hb; have n0_ := Aside0.mk (blk_below (g := gb17) (o := .cells #[.int .i64 a0_0, .int .i64 a0_1] 55 (0, 0)) zk hb); have n1_ := Aside0.mk (below_step zb hb); have n2_ := Aside0.mk (hbox); have n3_ := Aside0.mk ((by rw [hg]; exact (below_size zb) : w.heap.size ≤ gb18)); have n4_ := n3_; have n5_ := Aside0.mk ((by rw [hg]; exact Nat.ne_of_lt (blk_lt (g := gb17) (o := .cells #[.int .i64 a0_0, .int .i64 a0_1] 55 (0, 0)) zk) : gb17 ≠ gb18)); have n6_ := Aside0.mk ((by rw [hg]; exact Nat.ne_of_gt (blk_lt (g := gb17) (o := .cells #[.int .i64 a0_0, .int .i64 a0_1] 55 (0, 0)) zk) : gb18 ≠ gb17)); clear BK17; clear HB; have BK17 := n0_; have HB := n1_; have BK18 := n2_; have GW18 := n3_; have GE18 := n4_; have NB299_300 := n5_; have NB300_299 := n6_; clear n0_ n1_ n2_ n3_ n4_ n5_ n6_; clear hb hbox hg))
 have n0_ := Aside0.mk (blk_drew BK17.out)
 have n1_ := Aside0.mk (blk_drew BK18.out)
 have n2_ := Aside0.mk (below_drew1 HB.out)
 clear BK17
 clear BK18
 clear HB
 have BK17 := n0_
 have BK18 := n1_
 have HB := n2_
 clear n0_ n1_ n2_
 refine start_ (n := 13) (S := fun w' => w'.cell? ⟨gb17, 0, none⟩ = some (.int .i64 a0_0) ∧ w'.cell? ⟨gb17, 1, none⟩ = some (.int .i64 a0_1) ∧ w'.cell? ⟨gb18, 0, none⟩ = some (.int .i64 a1_0) ∧ w'.cell? ⟨gb18, 1, none⟩ = some (.int .i64 a1_1)) (ds := []) #[false, false, false, false, false, false, false, false, false, false, false, false, false] (by kernel_rfl) rfl rfl ⟨(blk_cell BK17.out 0).trans rfl, (blk_cell BK17.out 1).trans rfl, (blk_cell BK18.out 0).trans rfl, (blk_cell BK18.out 1).trans rfl⟩ (fun hHeld => ?_); refine with_tabW impl_comparePairs.tab1 impl_comparePairs.bits1 (fun HT_ HW_ => ?_)
 generalize w7.drew = w8 at BK17 BK18 HB hHeld ⊢
 refine zp 0 5 ?_; refine zp 2 7 ?_; refine zp 5 10 ?_; refine zp 7 12 ?_; refine zt 1 6 ?_; refine zt 3 8 ?_; refine zt 6 11 ?_; refine zt 8 13 ?_
 refine one_ (i := 4) (N := some 9) #[true, true, true, true, true, true, true, true, true, false, false, false, false] rfl rfl (one_of HT_.out (by kernel_rfl)) (by decide) (fun K hK => ?_)
 refine goes_ Tryz.func94 (by kernel_rfl) rfl #[.int .i64 a0_0, .int .i64 a1_0] (by rfl) rfl rfl zm ?_
 with_reducible refine (cmp_Compare_int64.calls a0_0 a1_0 t21 _ A3.out).mono ?_
 rintro e w' ⟨rfl, ⟨nd, rfl⟩⟩
 refine ⟨_, rfl, ?_⟩
 refine hK.out _ _ ⟨(blk_cell BK17.out 0).trans rfl, (blk_cell BK17.out 1).trans rfl, (blk_cell BK18.out 0).trans rfl, (blk_cell BK18.out 1).trans rfl⟩ (fun hHeld => ?_)
 clear hK K
 refine norm_ (a' := ?_) ?_ ?_
 rotate_left
 ·show Act.put _ (some 9) _ = _
  simp only [Act.put, List.setIfInBounds_toArray, List.set_cons_zero, List.set_cons_succ, i64_w, i32_w]
  rfl
 refine one_ (i := 9) (N := some 14) #[true, true, true, true, true, true, true, true, true, true, false, false, false] rfl rfl (one_of HT_.out (by kernel_rfl)) (by decide) (fun K hK => ?_)
 refine goes_ Tryz.func94 (by kernel_rfl) rfl #[.int .i64 a0_1, .int .i64 a1_1] (by rfl) rfl rfl zm ?_
 with_reducible refine (cmp_Compare_int64.calls a0_1 a1_1 t20 _ A4.out).mono ?_
 rintro e w' ⟨rfl, ⟨nd, rfl⟩⟩
 refine ⟨_, rfl, ?_⟩
 refine hK.out _ _ ⟨(blk_cell BK17.out 0).trans rfl, (blk_cell BK17.out 1).trans rfl, (blk_cell BK18.out 0).trans rfl, (blk_cell BK18.out 1).trans rfl⟩ (fun hHeld => ?_)
 clear hK K
 refine norm_ (a' := ?_) ?_ ?_
 rotate_left
 ·show Act.put _ (some 14) _ = _
  simp only [Act.put, List.setIfInBounds_toArray, List.set_cons_zero, List.set_cons_succ, i64_w, i32_w]
  rfl
 refine one_ (i := 10) (N := some 15) #[true, true, true, true, true, true, true, true, true, true, true, false, false] rfl rfl (one_of HT_.out (by kernel_rfl)) (by decide) (fun K hK => ?_)
 refine Kd.R_lit_step (Kd.int .i64) _ 3 ?hg (N := 15) ?hd (xs := ([t21, t20] : List Int)) (inner := [.int .i64 t21, .int .i64 t20]) (ok := fun _ => True) (okp := fun _ => True) ?hr ?hp (fun _ hk => hk) trivial (Below.refl _ _) (Nat.le_refl _) (by simp) ?_; (case hd => rfl); (case hg => rfl); (case hr => first | (go_simp; done) | (go_simp; rfl)); (case hp => exact (Reps.one (show Kd.M (Kd.int .i64) _ _ _ t21 [.int .i64 t21] from rfl) (Reps.one (show Kd.M (Kd.int .i64) _ _ _ t20 [.int .i64 t20] from rfl) (Reps.none _ _))))
 intro v24 w9 ho10 hb hg_ hnew_
 clear hg_ hnew_
 (first | rw [← Ny19.out] at ho10 | (simp only [Int.reduceToNat] at ho10; rw [← Ny19.out] at ho10))
 have n0_ := Aside0.mk (Kd.R_lower ho10 (below_size zb))
 have n1_ := Aside0.mk (blk_below (g := gb17) (o := .cells #[.int .i64 a0_0, .int .i64 a0_1] 55 (0, 0)) zk hb)
 have n2_ := Aside0.mk (blk_below (g := gb18) (o := .cells #[.int .i64 a1_0, .int .i64 a1_1] 55 (0, 0)) zk hb)
 have n3_ := Aside0.mk (below_step zb hb)
 clear BK17
 clear BK18
 clear HB
 have HO23 := n0_
 have BK17 := n1_
 have BK18 := n2_
 have HB := n3_
 clear n0_ n1_ n2_ n3_
 clear hb ho10
 obtain ⟨Ao11, co11, eo11⟩ := Kd.R_slice HO23.out
 (first | subst eo11 | (injection eo11 with f1_ f2_ f3_; have f4_ := f1_.symm; have f5_ := f3_.symm; clear f1_ f2_ f3_; subst f4_; subst f5_))
 refine hK.out _ _ ⟨(blk_cell BK17.out 0).trans rfl, (blk_cell BK17.out 1).trans rfl, (blk_cell BK18.out 0).trans rfl, (blk_cell BK18.out 1).trans rfl⟩ (fun hHeld => ?_)
 clear hK K
 refine norm_ (a' := ?_) ?_ ?_
 rotate_left
 ·show Act.put _ (some 15) _ = _
  simp only [Act.put, List.setIfInBounds_toArray, List.set_cons_zero, List.set_cons_succ, i64_w, i32_w]
  rfl
 refine one_ (i := 11) (N := some 16) #[true, true, true, true, true, true, true, true, true, true, true, true, false] rfl rfl (one_of HT_.out (by kernel_rfl)) (by decide) (fun K hK => ?_)
 refine goes_ Tryz.func93 (by kernel_rfl) rfl #[.slice Ao11 y19.length co11] (by rfl) rfl rfl zm ?_
 with_reducible refine (cmp_Or_int.calls k _ _ y19 t22 _ ?side1 ?side2 A5.out).mono ?_
 (case side1 => repeat (first | exact (Kd.R_reads' HO23.out).2.2 | (with_reducible first | refine Kd.C_alloc ?_ _ | refine Kd.C_drewN ?_ _ | refine Kd.C_drew ?_)))
 (case side2 => exact (Kd.R_reads' HO23.out).2.1)
 rintro e w' ⟨rfl, ⟨nd, rfl⟩⟩
 refine ⟨_, rfl, ?_⟩
 refine hK.out _ _ ⟨(blk_cell BK17.out 0).trans rfl, (blk_cell BK17.out 1).trans rfl, (blk_cell BK18.out 0).trans rfl, (blk_cell BK18.out 1).trans rfl⟩ (fun hHeld => ?_)
 clear hK K
 refine norm_ (a' := ?_) ?_ ?_
 rotate_left
 ·show Act.put _ (some 16) _ = _
  simp only [Act.put, List.setIfInBounds_toArray, List.set_cons_zero, List.set_cons_succ, i64_w, i32_w]
  rfl
 refine zp 12 4 ?_
 refine done_ (done_of HT_.out (by kernel_rfl)) ?_
 try go_wp2
 go_ret
 exact ⟨ze, zb⟩
-- PROOF --
def Gr (w u : World) : Prop := ∃ q os, u = Go.Sort.grow (w.drewN q) os
instance : Inhabited S55 := ⟨z55⟩
theorem Gr.refl (w : World) : Gr w w := ⟨0, #[], by simp [World.drewN]⟩
theorem Gr.alloc {w u : World} (h : Gr w u) (o : Obj) : Gr w (u.alloc o) := by
 obtain ⟨q, os, rfl⟩ := h
 exact ⟨q, os ++ #[o], by rw [Go.Sort.alloc_eq_grow, Go.Sort.grow_grow]⟩
theorem Gr.drewN {w u : World} (h : Gr w u) (n : Nat) : Gr w (u.drewN n) := by
 obtain ⟨q, os, rfl⟩ := h
 refine ⟨q + n, os, ?_⟩
 simp [Go.Sort.grow, World.drewN, Nat.add_assoc]
theorem Gr.drew {w u : World} (h : Gr w u) : Gr w u.drew := h.drewN 1
theorem lit2_C (W : World) (a b : Int) : Kd.C (Kd.int .i64) (W.alloc (.cells #[.int .i64 a, .int .i64 b] 3)) (some ⟨W.heap.size, 0, none⟩) 2 [a, b] := by
 have hR : Kd.R (Kd.int .i64) 3 (W.alloc (.cells #[.int .i64 a, .int .i64 b] 3)) 0 (fun _ => True) (.slice (some ⟨W.heap.size, 0, none⟩) 2 2) [a, b] := by
  refine ⟨fun _ _ => trivial, [.int .i64 a, .int .i64 b], ?_, Reps.one rfl (Reps.one rfl (Reps.none _ _))⟩
  exact World.ownsRow_lit (base := 0) (e := 3) (size := 1) W #[.int .i64 a, .int .i64 b] 2 (Nat.zero_le _) (by decide) rfl
 exact (Kd.R_reads' hR).2.2
theorem cmpP_eq (x y : S55) : impl_comparePairs.f 5 x.f0 x.f1 y.f0 y.f1 = some (cmpP x y) := by
 unfold cmpP
 simp only [impl_comparePairs.f, cmp_Compare_int64.f, cmp_isNaN_int64.f, cmp_Or_int.f]
 repeat' split
 all_goals first | omega | simp_all [cmp_Or_int.l0, rd, wrap64, cmp_isNaN_int64.f] | (exfalso; omega)
set_option maxHeartbeats 8000000 in
set_option maxRecDepth 100000 in
theorem cmpP_lays (x y : S55) (w : World) : Calls Tryz.prog 70 #[.agg #[.int .i64 x.f0, .int .i64 x.f1], .agg #[.int .i64 y.f0, .int .i64 y.f1]] w fun e w' => e = .returned (.int .i64 (cmpP x y)) ∧ Gr w w' := by
 have hu55 := Tryz.underlying55
 have h := cmpP_eq x y
 unfold impl_comparePairs.f at h
 obtain ⟨t1, h1, h⟩ := Option.bind_eq_some_iff.mp h
 obtain ⟨t2, h2, h⟩ := Option.bind_eq_some_iff.mp h
 obtain ⟨t3, h3, h⟩ := Option.bind_eq_some_iff.mp h
 have h := Option.some.inj h
 rw [← h]
 have H1 := Aside0.mk h1
 have H2 := Aside0.mk h2
 have H3 := Aside0.mk h3
 clear h h1 h2 h3
 rcases x with ⟨x0, x1⟩
 rcases y with ⟨y0, y1⟩
 simp only at H1 H2 ⊢
 go_enter Tryz.func70, Tryz.ntmps70
 go_upto_region 1 with fail
 have G0 := Aside0.mk (((Gr.refl w).alloc (Obj.cells #[.int .i64 x0, .int .i64 x1] 55)).alloc (Obj.cells #[.int .i64 y0, .int .i64 y1] 55))
 have K1 := Aside0.mk (blk_alloc (blk_new w (Obj.cells #[.int .i64 x0, .int .i64 x1] 55)) (Obj.cells #[.int .i64 y0, .int .i64 y1] 55))
 have K2 := Aside0.mk (blk_new (w.alloc (Obj.cells #[.int .i64 x0, .int .i64 x1] 55)) (Obj.cells #[.int .i64 y0, .int .i64 y1] 55))
 have e1 : (w.alloc (Obj.cells #[.int .i64 x0, .int .i64 x1] 55)).heap.size = w.heap.size + 1 := by simp
 try rw [e1] at K2
 generalize (w.alloc (Obj.cells #[.int .i64 x0, .int .i64 x1] 55)).alloc (Obj.cells #[.int .i64 y0, .int .i64 y1] 55) = u0 at G0 K1 K2 ⊢
 try rw [e1]
 clear e1
 generalize w.heap.size = g1 at K1 K2 ⊢
 generalize g1 + 1 = g2 at K2 ⊢
 obtain ⟨a0_, a1_, b0_, b1_⟩ := Lv.blks2 K1.out
 obtain ⟨c0_, c1_, d0_, d1_⟩ := Lv.blks2 K2.out
 refine start_ (n := 13) (S := fun W_ => W_.cell? ⟨g1, 0, none⟩ = some (.int .i64 x0) ∧ W_.cell? ⟨g1, 1, none⟩ = some (.int .i64 x1) ∧ W_.cell? ⟨g2, 0, none⟩ = some (.int .i64 y0) ∧ W_.cell? ⟨g2, 1, none⟩ = some (.int .i64 y1)) (ds := []) #[false, false, false, false, false, false, false, false, false, false, false, false, false] (by kernel_rfl) rfl rfl ⟨a0_, a1_, c0_, c1_⟩ (fun hHeld => ?_)
 have G1 := Aside0.mk G0.out.drew
 clear a0_ a1_ c0_ c1_ b0_ b1_ d0_ d1_
 generalize u0.drew = u1 at G1 hHeld ⊢
 refine zp 0 5 ?_; refine zp 2 7 ?_; refine zp 5 10 ?_; refine zp 7 12 ?_; refine zt 1 6 ?_; refine zt 3 8 ?_; refine zt 6 11 ?_; refine zt 8 13 ?_
 refine one_ (i := 4) (N := some 9) #[true, true, true, true, true, true, true, true, true, false, false, false, false] rfl rfl (by kernel_rfl) (by decide) (fun K hK => ?_)
 refine goes_ Tryz.func94 (by kernel_rfl) rfl #[.int .i64 x0, .int .i64 y0] (by rfl) rfl rfl zm ?_
 refine (cmp_Compare_int64.calls x0 y0 t1 _ H1.out).mono ?_
 rintro e w3 ⟨rfl, hd⟩
 refine ⟨_, rfl, ?_⟩
 obtain ⟨n3, rfl⟩ := hd.out
 clear hd
 have G2 := Aside0.mk (G1.out.drewN n3)
 refine hK.out _ _ ⟨hHeld.1, hHeld.2.1, hHeld.2.2.1, hHeld.2.2.2⟩ (fun hHeld => ?_)
 clear hK K
 refine norm_ (a' := ?_) ?_ ?_
 rotate_left
 ·show Act.put _ (some 9) _ = _
  simp only [Act.put, List.setIfInBounds_toArray, List.set_cons_zero, List.set_cons_succ, i64_w, i32_w]
  rfl
 refine one_ (i := 9) (N := some 14) #[true, true, true, true, true, true, true, true, true, true, false, false, false] rfl rfl (by kernel_rfl) (by decide) (fun K hK => ?_)
 refine goes_ Tryz.func94 (by kernel_rfl) rfl #[.int .i64 x1, .int .i64 y1] (by rfl) rfl rfl zm ?_
 refine (cmp_Compare_int64.calls x1 y1 t2 _ H2.out).mono ?_
 rintro e w4 ⟨rfl, hd⟩
 refine ⟨_, rfl, ?_⟩
 obtain ⟨n4, rfl⟩ := hd.out
 clear hd
 have G3 := Aside0.mk (G2.out.drewN n4)
 replace hHeld := Aside0.mk (show ((u1.drewN n3).drewN n4).cell? ⟨g1, 0, none⟩ = some (.int .i64 x0) ∧ ((u1.drewN n3).drewN n4).cell? ⟨g1, 1, none⟩ = some (.int .i64 x1) ∧ ((u1.drewN n3).drewN n4).cell? ⟨g2, 0, none⟩ = some (.int .i64 y0) ∧ ((u1.drewN n3).drewN n4).cell? ⟨g2, 1, none⟩ = some (.int .i64 y1) from hHeld)
 generalize (u1.drewN n3).drewN n4 = u2 at G3 hHeld ⊢
 refine hK.out _ _ ⟨hHeld.out.1, hHeld.out.2.1, hHeld.out.2.2.1, hHeld.out.2.2.2⟩ (fun hHeld => ?_)
 clear hK K
 refine norm_ (a' := ?_) ?_ ?_
 rotate_left
 ·show Act.put _ (some 14) _ = _
  simp only [Act.put, List.setIfInBounds_toArray, List.set_cons_zero, List.set_cons_succ, i64_w, i32_w]
  rfl
 refine one_ (i := 10) (N := some 15) #[true, true, true, true, true, true, true, true, true, true, true, false, false] rfl rfl (by kernel_rfl) (by decide) (fun K hK => ?_)
 refine event_step ?hg (w1 := u2.alloc (.cells #[.int .i64 t1, .int .i64 t2] 3)) (v := .slice (some ⟨u2.heap.size, 0, none⟩) 2 2) ?hr ?_
 case hg => rfl
 case hr => first | (go_simp; done) | (go_simp; rfl)
 have G4 := Aside0.mk (G3.out.alloc (.cells #[.int .i64 t1, .int .i64 t2] 3))
 have HC := Aside0.mk (lit2_C u2 t1 t2)
 have hb := below_alloc (Below.refl u2.heap.size u2) (.cells #[.int .i64 t1, .int .i64 t2] 3)
 have HBA := Aside0.mk hb
 clear hb
 refine hK.out _ _ ⟨pw_cell_below HBA.out hHeld.1, pw_cell_below HBA.out hHeld.2.1, pw_cell_below HBA.out hHeld.2.2.1, pw_cell_below HBA.out hHeld.2.2.2⟩ (fun hHeld => ?_)
 clear hK K
 refine norm_ (a' := ?_) ?_ ?_
 rotate_left
 ·show Act.put _ (some 15) _ = _
  simp only [Act.put, List.setIfInBounds_toArray, List.set_cons_zero, List.set_cons_succ, i64_w, i32_w]
  rfl
 refine one_ (i := 11) (N := some 16) #[true, true, true, true, true, true, true, true, true, true, true, true, false] rfl rfl (by kernel_rfl) (by decide) (fun K hK => ?_)
 refine goes_ Tryz.func93 (by kernel_rfl) rfl #[.slice (some ⟨u2.heap.size, 0, none⟩) 2 2] (by rfl) rfl rfl zm ?_
 refine (cmp_Or_int.calls 5 (some ⟨u2.heap.size, 0, none⟩) 2 [t1, t2] t3 _ HC.out (Nat.le_refl 2) H3.out).mono ?_
 rintro e w6 ⟨rfl, hd⟩
 refine ⟨_, rfl, ?_⟩
 obtain ⟨n6, rfl⟩ := hd.out
 clear hd
 have G5 := Aside0.mk (G4.out.drewN n6)
 refine hK.out _ _ ⟨hHeld.1, hHeld.2.1, hHeld.2.2.1, hHeld.2.2.2⟩ (fun hHeld => ?_)
 clear hK K
 refine norm_ (a' := ?_) ?_ ?_
 rotate_left
 ·show Act.put _ (some 16) _ = _
  simp only [Act.put, List.setIfInBounds_toArray, List.set_cons_zero, List.set_cons_succ, i64_w, i32_w]
  rfl
 refine zp 12 4 ?_
 refine done_ (by kernel_rfl) ?_
 go_wp2
 go_ret
 exact ⟨rfl, G5.out⟩
theorem cmpP_lt (x y : S55) : decide (cmpP x y < 0) = decide (x.f0 < y.f0 ∨ (x.f0 = y.f0 ∧ x.f1 < y.f1)) := by
 unfold cmpP
 repeat' split
 all_goals (first | (apply decide_eq_decide.2; omega))
def encP (x : S55) : List Value := [.int .i64 x.f0, .int .i64 x.f1]
theorem encP_one : ∀ x, ∀ u ∈ encP x, u.oneCell' = true := by intro x u hu; simp [encP] at hu; rcases hu with rfl | rfl <;> rfl
theorem encP_flat : ∀ (l : List S55), (l.flatMap encP).length = l.length * 2
 | [] => rfl
 | x :: xs => by rw [List.flatMap_cons, List.length_append, encP_flat xs, List.length_cons]; simp [encP]; omega
open Go.Sort Go.Shelf in
theorem flatP (l : List S55) : (flatK encP 2 l.toArray) = (l.flatMap encP).toArray := by
 refine ext_get! (by rw [size_flatK, List.size_toArray, List.size_toArray, encP_flat]) fun t ht => ?_
 have ht' : t < l.length * 2 := by simpa using ht
 rw [get_flatK _ _ _ t (by simpa using ht')]
 clear ht
 have key : ∀ (l : List S55) (t : Nat), t < l.length * 2 → (l.flatMap encP)[t]? = (encP (l.getD (t / 2) z55))[t % 2]? := by
  intro l
  induction l with
  | nil => intro t h; simp at h
  | cons x xs ih =>
   intro t h
   rw [List.flatMap_cons]
   by_cases h2 : t < 2
   ·rw [List.getElem?_append_left (by simp [encP]; omega), show t / 2 = 0 by omega, show t % 2 = t by omega]; rfl
   rw [List.getElem?_append_right (by simp [encP]; omega), show (encP x).length = 2 from rfl, ih (t - 2) (by rw [List.length_cons] at h; omega), show t / 2 = (t - 2) / 2 + 1 by omega, show t % 2 = (t - 2) % 2 by omega]; rfl
 have h1 := key l t ht'
 have hd : t / 2 < l.length := by omega
 rw [show l.toArray[t / 2]! = l.getD (t / 2) z55 from by rw [List.getD_eq_getElem?_getD]; simp [hd]]
 simp only [Array.getElem!_eq_getD, Array.getD_eq_getD_getElem?, List.getElem?_toArray, h1, List.getElem!_eq_getElem?_getD]
open Go.Shelf in
def slices_SortFunc_lay_ren : Go.Shelf.Ren := ⟨fun | 6 => 72 | 15 => 96 | 14 => 95 | 28 => 115 | 29 => 116 | 20 => 107 | 21 => 108 | 22 => 109 | 23 => 110 | 24 => 111 | 25 => 112 | 26 => 113 | 27 => 114 | 46 => 119 | 47 => 120 | 48 => 121 | 49 => 122 | 50 => 123 | 57 => 124 | n => n, fun | 22 => 35 | 24 => 55 | 25 => 105 | 3 => 3 | 39 => 131 | 0 => 0 | 53 => 150 | 55 => 152 | 4 => 4 | 46 => 144 | 45 => 143 | 50 => 125 | 5 => 5 | 9 => 9 | 66 => 155 | 70 => 159 | 76 => 161 | 77 => 162 | n => n, fun | n => n⟩
open Go.Shelf in
theorem slices_SortFunc_lay : Go.Proofs.SlLaysF0.n6 Tryz.prog slices_SortFunc_lay_ren := {
  mixed := by kernel_rfl
  f6 := ⟨Tryz.f72.name, by decide, Tryz.func72.trans (congrArg some (by kernel_rfl))⟩
  f14 := ⟨Tryz.f95.name, by decide, Tryz.func95.trans (congrArg some (by kernel_rfl))⟩
  f15 := Tryz.func96.trans (congrArg some (by kernel_rfl))
  f20 := ⟨Tryz.f107.name, by decide, Tryz.func107.trans (congrArg some (by kernel_rfl))⟩
  f21 := ⟨Tryz.f108.name, by decide, Tryz.func108.trans (congrArg some (by kernel_rfl))⟩
  f22 := ⟨Tryz.f109.name, by decide, Tryz.func109.trans (congrArg some (by kernel_rfl))⟩
  f23 := ⟨Tryz.f110.name, by decide, Tryz.func110.trans (congrArg some (by kernel_rfl))⟩
  f24 := ⟨Tryz.f111.name, by decide, Tryz.func111.trans (congrArg some (by kernel_rfl))⟩
  f25 := ⟨Tryz.f112.name, by decide, Tryz.func112.trans (congrArg some (by kernel_rfl))⟩
  f26 := ⟨Tryz.f113.name, by decide, Tryz.func113.trans (congrArg some (by kernel_rfl))⟩
  f27 := ⟨Tryz.f114.name, by decide, Tryz.func114.trans (congrArg some (by kernel_rfl))⟩
  f28 := Tryz.func115.trans (congrArg some (by kernel_rfl))
  f29 := Tryz.func116.trans (congrArg some (by kernel_rfl))
  f46 := ⟨Tryz.f119.name, by decide, Tryz.func119.trans (congrArg some (by kernel_rfl))⟩
  f47 := Tryz.func120.trans (congrArg some (by kernel_rfl))
  f48 := Tryz.func121.trans (congrArg some (by kernel_rfl))
  f49 := ⟨Tryz.f122.name, by decide, Tryz.func122.trans (congrArg some (by kernel_rfl))⟩
  f50 := ⟨Tryz.f123.name, by decide, Tryz.func123.trans (congrArg some (by kernel_rfl))⟩
  f57 := ⟨Tryz.f124.name, by decide, Tryz.func124.trans (congrArg some (by kernel_rfl))⟩
  t0 := Tryz.underlying0
  a0 := Tryz.isAgg0
  z0 := Tryz.sizeOf0
  v0 := Tryz.zeroValue0
  t3 := Tryz.underlying3
  a3 := Tryz.isAgg3
  z3 := Tryz.sizeOf3
  v3 := Tryz.zeroValue3
  t4 := Tryz.underlying4
  a4 := Tryz.isAgg4
  z4 := Tryz.sizeOf4
  v4 := Tryz.zeroValue4
  t5 := Tryz.underlying5
  a5 := Tryz.isAgg5
  z5 := Tryz.sizeOf5
  v5 := Tryz.zeroValue5
  t9 := Tryz.underlying9
  a9 := Tryz.isAgg9
  z9 := Tryz.sizeOf9
  v9 := Tryz.zeroValue9
  t22 := Tryz.underlying35
  a22 := Tryz.isAgg35
  z22 := Tryz.sizeOf35
  v22 := Tryz.zeroValue35
  t25 := Tryz.underlying105
  a25 := Tryz.isAgg105
  z25 := Tryz.sizeOf105
  v25 := Tryz.zeroValue105
  t39 := Tryz.underlying131
  a39 := Tryz.isAgg131
  z39 := Tryz.sizeOf131
  v39 := Tryz.zeroValue131
  t45 := Tryz.underlying143
  a45 := Tryz.isAgg143
  z45 := Tryz.sizeOf143
  v45 := Tryz.zeroValue143
  t46 := Tryz.underlying144
  a46 := Tryz.isAgg144
  z46 := Tryz.sizeOf144
  v46 := Tryz.zeroValue144
  t50 := Tryz.underlying125
  a50 := Tryz.isAgg125
  z50 := Tryz.sizeOf125
  v50 := Tryz.zeroValue125
  t53 := Tryz.underlying150
  a53 := Tryz.isAgg150
  z53 := Tryz.sizeOf150
  v53 := Tryz.zeroValue150
  t55 := Tryz.underlying152
  a55 := Tryz.isAgg152
  z55 := Tryz.sizeOf152
  v55 := Tryz.zeroValue152
  t66 := Tryz.underlying155
  a66 := Tryz.isAgg155
  z66 := Tryz.sizeOf155
  v66 := Tryz.zeroValue155
  t70 := Tryz.underlying159
  a70 := Tryz.isAgg159
  z70 := Tryz.sizeOf159
  v70 := Tryz.zeroValue159
  t76 := Tryz.underlying161
  a76 := Tryz.isAgg161
  z76 := Tryz.sizeOf161
  v76 := Tryz.zeroValue161
  t77 := Tryz.underlying162
  a77 := Tryz.isAgg162
  z77 := Tryz.sizeOf162
  v77 := Tryz.zeroValue162 }
open Go.Shelf Go.Sort Go.Lib in
theorem swoP : SWO (ltOf cmpP) where
 irrefl x := by unfold ltOf; rw [cmpP_lt]; simp
 trans x y z h1 h2 := by unfold ltOf at *; rw [cmpP_lt] at *; simp at *; omega
 ntrans x y z h1 h2 := by unfold ltOf at *; rw [cmpP_lt] at *; simp at *; omega
open Go.Shelf Go.Sort Go.ChangeShapes Go.WideShapes in
theorem slices_SortFunc_impl_Pair.calls (P0_ : Nat → Prop) (u9000_ : Value) (l0 : List S55) (fv : Value) (r : List S55) (w0 w : World) (hB : Below w0.heap.size w0 w) (ho0 : Kd.R k55 55 w w0.heap.size P0_ u9000_ l0) (h : slices_SortFunc_impl_Pair.f l0 fv = some r) :
 Calls Tryz.prog 72 #[u9000_, .func (.func 70) #[] #[]] w fun e w' => e = .returned (.tuple #[]) ∧ Kd.R k55 55 w' w0.heap.size (fun k_ => (P0_ k_ ∨ w.heap.size ≤ k_)) u9000_ r ∧ Below w0.heap.size w0 w' ∧ Kept w w' (fun k_ => P0_ k_) := by
 unfold slices_SortFunc_impl_Pair.f at h
 by_cases hm : l0.length < 4611686018427387904
 case neg => rw [if_neg hm] at h; cases h
 rw [if_pos hm] at h
 have h := Option.some.inj h
 subst h
 have hP := ho0.1
 rcases Li.own_open (enc := encP) (fun w base ok x c hk => k55_openM hk) ho0 with ⟨rfl, rfl⟩ | ⟨g, cap, sp, rfl, hb, hok, hg, hn, hc, hs⟩
 ·refine (AnyF.slices_SortFunc_none slices_SortFunc_lay none 0 _ w).mono ?_
  rintro e W' ⟨rfl, rfl⟩
  exact ⟨rfl, by simpa [sortP] using Kd.R_nil _ _ _ _ _, hB, Kept.refl _ _⟩
 ·have hgl : g < w.heap.size := (Array.getElem?_eq_some_iff.1 hg).1
  have hH : HoldsK encP 2 w g 0 l0.toArray := by
   intro j hj
   rw [flatP] at hj ⊢
   have hj' : j < (l0.flatMap encP).length := by simpa using hj
   refine ⟨?_, by simp [World.frozen?, hg]⟩
   simp only [World.cell?, hg, Nat.zero_add]
   simp [hj', List.getElem?_append_left hj']
   rw [List.getElem?_eq_getElem hj']; rfl
  have hlen : (sortP l0).length = l0.length := List.length_mergeSort l0
  have eg : ∀ args w, (callFunc 70 args).run Tryz.prog w = .ok (.enter 70 args) w := enters_of Tryz.func70 (by kernel_rfl) rfl
  have hcon := AnyQ.slices_SortFunc_total slices_SortFunc_lay 2 (by intro w; kernel_rfl) (by intro w; kernel_rfl) encP (fun _ => rfl) encP_one cmpP swoP 70 #[] g 0 cap l0.toArray w eg (fun _ _ _ _ x y => cmpP_lays x y _) hH hgl (by simpa using hm) (fun x y h1 h2 => by
   unfold ltOf at h1 h2; rw [cmpP_lt] at h1 h2; rcases x with ⟨x0, x1⟩; rcases y with ⟨y0, y1⟩; simp at h1 h2 ⊢; omega)
  have e0 : l0.toArray.size = l0.length := by simp
  rw [e0] at hcon
  refine hcon.mono ?_
  rintro e W' ⟨rfl, n, os, rfl⟩
  have es : (l0.toArray.toList.mergeSort fun x y => !(ltOf cmpP) y x) = sortP l0 := rfl
  rw [es]
  have hh : (sortWorldK encP 2 w g 0 n (sortP l0).toArray os).heap[g]? = some (Obj.cells ((sortP l0).flatMap encP ++ sp).toArray 55 (0, 0)) := by
   unfold sortWorldK putRowK
   rw [flatP, heap_grow_old _ _ (by simpa [putRow, mapBlock, Sort.ahead] using hgl)]
   simp only [putRow, mapBlock, Sort.ahead, Array.getElem?_modify, if_true, hg, Option.map_some, onCells]
   congr 2
   have lx := encP_flat (sortP l0)
   have ly := encP_flat l0
   rw [hlen] at lx
   generalize (sortP l0).flatMap encP = X at lx ⊢
   generalize l0.flatMap encP = Y at ly ⊢
   refine Array.ext (by simp [putCells, lx, ly]) fun i h1 h2 => ?_
   simp only [putCells, Array.getElem_mapIdx, Nat.zero_le, true_and, Nat.zero_add, Nat.sub_zero, List.size_toArray, id]
   have hi : i < (X ++ sp).length := by simpa using h2
   by_cases hlt : i < X.length
   ·rw [if_pos hlt]; simp [hlt, List.getElem_append_left hlt]
   rw [if_neg hlt]; simp only [List.getElem_toArray]; rw [List.getElem_append_right (by omega), List.getElem_append_right (by omega)]; simp only [lx, ly]
  have hgb : w.grownBy (sortWorldK encP 2 w g 0 n (sortP l0).toArray os) (some g) := by
   refine ⟨rfl, rfl, rfl, by simp [sortWorldK, putRowK, putRow, mapBlock, Sort.ahead, grow], fun k hk hne => ?_⟩
   unfold sortWorldK putRowK
   rw [heap_grow_old _ _ (by simpa [putRow, mapBlock, Sort.ahead] using hk)]
   have : g ≠ k := fun e => hne (by rw [e])
   simp [putRow, mapBlock, Sort.ahead, Array.getElem?_modify, this]
  refine ⟨rfl, ?_, hB.grown hgb hB.size (fun k hk => by cases hk; exact hb), ⟨hgb.size, fun k hk hS => hgb.block k hk (fun e => hS (by cases e; exact hok))⟩⟩
  have hR := Li.own_shut (enc := encP) (d := k55) (e := 55) (base := w0.heap.size) (ok := fun k_ => (P0_ k_ ∨ w.heap.size ≤ k_)) (sp := sp) (fun w base ok x => k55_mkM w base ok x) (fun _ => rfl) hb (.inl hok) hh (by rw [hlen]; exact hn) hc (by rw [List.length_append, encP_flat] at hs ⊢; rw [hlen]; exact hs)
  rw [hlen] at hR
  exact hR
end Go.Proofs.YtocdahbinombkaaGreat.P
