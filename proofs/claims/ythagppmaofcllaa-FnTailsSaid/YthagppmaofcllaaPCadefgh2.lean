import Derived.Test.YthagppmaofcllaaZz
import Derived.Test.YthagppmaofcllaaP0
import Derived.Test.YthagppmaofcllaaPCadefgh0
import Derived.Test.YthagppmaofcllaaPCadefgh1
import Derived.Test.YthagppmaofcllaaPCall1
import Derived.Test.YthagppmaofcllaaPDadefgh0
import Derived.Test.YthagppmaofcllaaPDall0
import Derived.Test.YthagppmaofcllaaWRepsOne
import Derived.Test.YthagppmaofcllaaWTab
import Derived.Test.YthagppmaofcllaaLv
namespace Go.Proofs.Ythagppmaofcllaa.P
open Go.RowKit Go.Proofs.YthagppmaofcllaaW.PrintWords Go.Proofs.YthagppmaofcllaaW.PrintLast Go.Proofs.YthagppmaofcllaaW.PrintMore
attribute [local go_sem] max2_int min2_int max_two min_two max_three min_three max_four min_four   -- for this text's walks alone
set_option linter.unusedVariables false
set_option linter.unusedSimpArgs false
theorem yc0 {p : Prop} (h : p := by (try simp only [List.map_toArray, List.map_cons, List.map_nil]); first | done | (rw [show yc_.length = ((wrap64 (x5_1 + 13)).toNat - x5_1.toNat) from (by rw [List.length_drop, List.length_take]; have h_ : ((wrap64 (x5_1 + 13)) : Int) ≤ (l0.length : Int) := of_decide_eq_true za; omega)] <;> rfl) | rfl | (simp only [List.length_drop, List.length_take]; rfl)) : p := h
theorem yc1 {p : Prop} (h : p := by refine zR ?_; exact Kd.Qw HO_4.out (fun _ hk => hk.2)) : p := h
theorem yc2 {p : Prop} (h : p := by first | (go_simp; done) | (go_simp; rfl)) : p := h
def Zsl3Recs.T5 : Bool × List (List Nat × List Nat) := (true, [([], []), ([0], [0]), ([1], [1]), ([2], [2]), ([], []), ([4], [4]), ([], []), ([6], [6]), ([7], [7]), ([8], [8]), ([], []), ([10], [10]), ([11], [11]), ([12], [12]), ([13], [13]), ([], []), ([15, 5], [15]), ([], []), ([17], [17]), ([18], [18]), ([19], [19]), ([20], [20]), ([21], [21]), ([], []), ([23, 16], [23]), ([], []), ([25, 24], [25]), ([3, 5, 9, 14, 16, 22, 24, 26], [3, 5, 9, 14, 16, 22, 24, 26]), ([], []), ([28, 27, 26, 0, 1, 2, 3, 4, 5, 6, 7, 8, 9, 10, 11, 12, 13, 14, 15, 16, 17, 18, 19, 20, 21, 22, 23, 24, 25, 26, 27, 28], [27, 28])])
def Zsl3Recs.B5 : List Nat := [0, 1, 3, 7, 0, 16, 0, 64, 192, 448, 0, 1024, 3072, 7168, 15360, 0, 32816, 0, 131072, 393216, 917504, 1966080, 4063232, 0, 8486960, 0, 58818608, 134217727, 0, 536870911]
theorem Zsl3Recs.tab5 : rtab .any (opsOf Try.f49 5) = Zsl3Recs.T5 := by kernel_rfl
theorem Zsl3Recs.bits5 : waitsOk Zsl3Recs.T5.2 Zsl3Recs.B5 = true := by kernel_rfl
def Zsl3Recs.T6 : Bool × List (List Nat × List Nat) := (true, [([], []), ([0], [0]), ([1], [1]), ([2, 1], [2]), ([3], [3]), ([4, 3, 3], [3, 4]), ([5, 3], [3, 5]), ([3], [3]), ([7, 3], [3, 7]), ([6, 8, 3], [3, 6, 8]), ([3, 9], [3, 9])])
def Zsl3Recs.B6 : List Nat := [0, 1, 3, 7, 15, 31, 63, 15, 143, 511, 1023]
theorem Zsl3Recs.tab6 : rtab .any (opsOf Try.f49 6) = Zsl3Recs.T6 := by kernel_rfl
theorem Zsl3Recs.bits6 : waitsOk Zsl3Recs.T6.2 Zsl3Recs.B6 = true := by kernel_rfl
theorem emod256_ (n : Int) : n % 256 % 2 = n % 2 := by omega
theorem tmod256_ (n : Int) : Int.tmod (n % 256) 2 = n % 256 % 2 := Int.tmod_eq_emod_of_nonneg (by omega)
attribute [local go_sem] IntKind.wrap_u8 tmod256_
set_option maxHeartbeats 40000000 in
set_option maxRecDepth 100000 in
theorem Zsl3Recs.calls (k : Nat) (A0 : Option Addr) (c0 : Nat) (l0 : List Int) (r1 : List (S48)) (r2 : Int) (w : World) (hr0 : Kd.C (Kd.int .u8) w A0 l0.length l0) (hc0 : l0.length ≤ c0) (h : Zsl3Recs.f k l0 = some (r1, r2)) :
 Calls Try.prog 49 #[.slice A0 l0.length c0] w fun e w' => ∃ v0_ : Value, e = .returned (.tuple #[v0_, .int .i64 r2]) ∧ Kd.R k48 48 w' w.heap.size (fun _ => True) v0_ r1 ∧ Below w.heap.size w w' := by
 have hu48 := Try.underlying48
 have HR0 := Qz.mk hr0
 have HC0 := Qz.mk hc0
 clear hr0 hc0
 have HB := Qz.mk (Below.refl w.heap.size w)
 have H : (Zsl3Recs.l0 k l0 (([] : List (S48))) 0) = some (r1, r2) := h
 clear h
 obtain ⟨y75, hy75⟩ : ∃ y_ : List (S48), y_ = (([] : List (S48))) := ⟨_, rfl⟩
 replace H : (Zsl3Recs.l0 k l0 y75 0) = some (r1, r2) := by first | (rw [hy75]; with_reducible exact H) | (have H2_ := (Option.bind_some _ _).symm.trans H; rw [hy75]; with_reducible exact H2_) | (have H2_ := (Option.bind_some _ _).symm.trans H; with_reducible exact H2_) | with_reducible exact H | (rw [hy75]; exact H) | exact H
 have Ny75 := Qz.mk hy75
 clear hy75
 have H' := Qz.mk H
 clear H
 go_enter Try.func49, Try.ntmps49
 go_wp2_with (first | ((with_reducible refine gate_dst (N := 8) rfl ?_); refine Kd.R_lit k48 _ 48 ?hg (N := 8) ?hd (xs := ([] : List (S48))) (inner := []) (ok := fun _ => True) (okp := fun _ => True) ?hr ?hp (fun _ hk => hk) trivial (Below.refl _ _) (Nat.le_refl _) (by simp) ?_; (case hd => rfl); (case hg => rfl); (case hr => exact yc2); (case hp => exact (Reps.none _ _)); intro v87 w2 ho3 hb hg_ hnew_; clear hg_ hnew_; (first | rw [← Ny75.out] at ho3 | (simp only [Int.reduceToNat] at ho3; rw [← Ny75.out] at ho3)); have n0_ := Qz.mk (Kd.Qan ho3 (Qp zb)); have n1_ := Qz.mk (Qq zb hb); clear HB; have HO85 := n0_; have HB := n1_; clear n0_ n1_; clear hb ho3))
 go_loopg [4, 5] k (fun kq v4 v5 w' => ∃ (x4_1 : List (S48)) (x5_1 : Int), v5 = .int .i64 x5_1 ∧ Qz (Zsl3Recs.l0 kq l0 x4_1 x5_1 = some (r1, r2)) ∧ Qz (kq ≤ k) ∧ Qz (Kd.R k48 48 w' w.heap.size (fun _ => True) v4 x4_1) ∧ Qz (Below w.heap.size w w'))
 case atStart => exact ⟨(y75), (0), zs, H', ⟨Nat.le_refl _⟩, ⟨zr HO85⟩, ⟨zb⟩⟩
 case round =>
  clear H'
  try clear p2
  obtain ⟨x4_1, x5_1, rfl, HA, HK1, HO_4, HB⟩ := hrel
  cases gk with
  | zero => exact absurd HA.out (by simp [Zsl3Recs.l0])
  | succ k1 =>
   have H := HA.out
   clear HA
   simp only [Zsl3Recs.l0] at H
   by_cases c4 : (wrap64 (x5_1 + 13)) ≤ (l0.length : Int)
   ·rw [if_pos c4] at H
    have c4b0 : decide ((wrap64 (x5_1 + 13)) ≤ (l0.length : Int)) = true := decide_eq_true c4
    clear c4
    by_cases c5 : 0 ≤ x5_1
    ·rw [if_pos c5] at H
     have c5b0 := eq_true c5
     have c5b1 : decide (0 ≤ x5_1) = true := decide_eq_true c5
     clear c5
     by_cases c6 : x5_1 ≤ (wrap64 (x5_1 + 13))
     ·rw [if_pos c6] at H
      have c6b0 := eq_true c6
      have c6b1 : decide (x5_1 ≤ (wrap64 (x5_1 + 13))) = true := decide_eq_true c6
      have c7b0 := eq_true (of_decide_eq_true za : (wrap64 (x5_1 + 13)) ≤ (l0.length : Int))
      obtain ⟨yc_, hyc_⟩ : ∃ y_ : List Int, y_ = ((l0.take ((wrap64 (x5_1 + 13)) : Int).toNat).drop (x5_1 : Int).toNat) := ⟨_, rfl⟩
      rw [← hyc_] at H
      simp only [emod256_] at H
      have Nyc_ := Qz.mk hyc_
      clear hyc_
      by_cases c8 : 0 < (yc_.length : Int)
      ·rw [if_pos c8] at H
       have c8b0 : decide (0 < (yc_.length : Int)) = true := decide_eq_true c8
       have c8b1 : decide (0 < yc_.length) = true := decide_eq_true (by omega)
       clear c8
       replace H := Option.bind_eq_some_iff.mp H
       obtain ⟨t62, A90, H⟩ := H
       replace H : (if 3 < (yc_.length : Int) then (if 4 < (yc_.length : Int) then ((Zsl1Take.f k1 yc_ 5 2).bind fun t63 => ((Zsl1Take.f k1 yc_ 7 2).bind fun t65 => ((Zsl1Take.f k1 yc_ 9 2).bind fun t66 => ((ZsRecFault.f k1 (wrap64 (rd yc_ 0)) t62 (wrap64 (rd yc_ 3)) ((Int.tmod (rd yc_ 4) 2) == 1) t63 (((Int.tdiv (rd yc_ 4) 2) % 2) == 1) t65 t66).bind fun t71 => (if t71 = 0 then ((Zsl3Pack.f k1 (wrap64 (rd yc_ 0)) t62 (wrap64 (rd yc_ 3)) ((Int.tmod (rd yc_ 4) 2) == 1) t63 (((Int.tdiv (rd yc_ 4) 2) % 2) == 1) t65 t66).bind fun t70 => (if (strOfNums t70).toList = (strOfNums yc_).toList then (if x4_1.length < 2199023255552 then (Zsl3Recs.l0 k1 l0 (x4_1 ++ [(⟨wrap64 (rd yc_ 0), t62, wrap64 (rd yc_ 3), ((Int.tmod (rd yc_ 4) 2) == 1), t63, (((Int.tdiv (rd yc_ 4) 2) % 2) == 1), t65, t66⟩ : S48)]) (wrap64 (x5_1 + 13))) else (none)) else (some (x4_1, x5_1)))) else (some (x4_1, x5_1))))))) else (none)) else (none)) = some (r1, r2) := H
       have A9 := Qz.mk A90
       clear A90
       by_cases c10 : 3 < (yc_.length : Int)
       ·rw [if_pos c10] at H
        have c10b0 : decide (3 < (yc_.length : Int)) = true := decide_eq_true c10
        have c10b1 : decide (3 < yc_.length) = true := decide_eq_true (by omega)
        clear c10
        by_cases c11 : 4 < (yc_.length : Int)
        ·rw [if_pos c11] at H
         have c11b0 : decide (4 < (yc_.length : Int)) = true := decide_eq_true c11
         have c11b1 : decide (4 < yc_.length) = true := decide_eq_true (by omega)
         clear c11
         replace H := Option.bind_eq_some_iff.mp H
         obtain ⟨t63, A78, H⟩ := H
         replace H : ((Zsl1Take.f k1 yc_ 7 2).bind fun t65 => ((Zsl1Take.f k1 yc_ 9 2).bind fun t66 => ((ZsRecFault.f k1 (wrap64 (rd yc_ 0)) t62 (wrap64 (rd yc_ 3)) ((Int.tmod (rd yc_ 4) 2) == 1) t63 (((Int.tdiv (rd yc_ 4) 2) % 2) == 1) t65 t66).bind fun t71 => (if t71 = 0 then ((Zsl3Pack.f k1 (wrap64 (rd yc_ 0)) t62 (wrap64 (rd yc_ 3)) ((Int.tmod (rd yc_ 4) 2) == 1) t63 (((Int.tdiv (rd yc_ 4) 2) % 2) == 1) t65 t66).bind fun t70 => (if (strOfNums t70).toList = (strOfNums yc_).toList then (if x4_1.length < 2199023255552 then (Zsl3Recs.l0 k1 l0 (x4_1 ++ [(⟨wrap64 (rd yc_ 0), t62, wrap64 (rd yc_ 3), ((Int.tmod (rd yc_ 4) 2) == 1), t63, (((Int.tdiv (rd yc_ 4) 2) % 2) == 1), t65, t66⟩ : S48)]) (wrap64 (x5_1 + 13))) else (none)) else (some (x4_1, x5_1)))) else (some (x4_1, x5_1)))))) = some (r1, r2) := H
         have A12 := Qz.mk A78
         clear A78
         replace H := Option.bind_eq_some_iff.mp H
         obtain ⟨t65, A81, H⟩ := H
         replace H : ((Zsl1Take.f k1 yc_ 9 2).bind fun t66 => ((ZsRecFault.f k1 (wrap64 (rd yc_ 0)) t62 (wrap64 (rd yc_ 3)) ((Int.tmod (rd yc_ 4) 2) == 1) t63 (((Int.tdiv (rd yc_ 4) 2) % 2) == 1) t65 t66).bind fun t71 => (if t71 = 0 then ((Zsl3Pack.f k1 (wrap64 (rd yc_ 0)) t62 (wrap64 (rd yc_ 3)) ((Int.tmod (rd yc_ 4) 2) == 1) t63 (((Int.tdiv (rd yc_ 4) 2) % 2) == 1) t65 t66).bind fun t70 => (if (strOfNums t70).toList = (strOfNums yc_).toList then (if x4_1.length < 2199023255552 then (Zsl3Recs.l0 k1 l0 (x4_1 ++ [(⟨wrap64 (rd yc_ 0), t62, wrap64 (rd yc_ 3), ((Int.tmod (rd yc_ 4) 2) == 1), t63, (((Int.tdiv (rd yc_ 4) 2) % 2) == 1), t65, t66⟩ : S48)]) (wrap64 (x5_1 + 13))) else (none)) else (some (x4_1, x5_1)))) else (some (x4_1, x5_1))))) = some (r1, r2) := H
         have A13 := Qz.mk A81
         clear A81
         replace H := Option.bind_eq_some_iff.mp H
         obtain ⟨t66, A82, H⟩ := H
         replace H : ((ZsRecFault.f k1 (wrap64 (rd yc_ 0)) t62 (wrap64 (rd yc_ 3)) ((Int.tmod (rd yc_ 4) 2) == 1) t63 (((Int.tdiv (rd yc_ 4) 2) % 2) == 1) t65 t66).bind fun t71 => (if t71 = 0 then ((Zsl3Pack.f k1 (wrap64 (rd yc_ 0)) t62 (wrap64 (rd yc_ 3)) ((Int.tmod (rd yc_ 4) 2) == 1) t63 (((Int.tdiv (rd yc_ 4) 2) % 2) == 1) t65 t66).bind fun t70 => (if (strOfNums t70).toList = (strOfNums yc_).toList then (if x4_1.length < 2199023255552 then (Zsl3Recs.l0 k1 l0 (x4_1 ++ [(⟨wrap64 (rd yc_ 0), t62, wrap64 (rd yc_ 3), ((Int.tmod (rd yc_ 4) 2) == 1), t63, (((Int.tdiv (rd yc_ 4) 2) % 2) == 1), t65, t66⟩ : S48)]) (wrap64 (x5_1 + 13))) else (none)) else (some (x4_1, x5_1)))) else (some (x4_1, x5_1)))) = some (r1, r2) := H
         have A14 := Qz.mk A82
         clear A82
         replace H := Option.bind_eq_some_iff.mp H
         obtain ⟨t71, A83, H⟩ := H
         replace H : (if t71 = 0 then ((Zsl3Pack.f k1 (wrap64 (rd yc_ 0)) t62 (wrap64 (rd yc_ 3)) ((Int.tmod (rd yc_ 4) 2) == 1) t63 (((Int.tdiv (rd yc_ 4) 2) % 2) == 1) t65 t66).bind fun t70 => (if (strOfNums t70).toList = (strOfNums yc_).toList then (if x4_1.length < 2199023255552 then (Zsl3Recs.l0 k1 l0 (x4_1 ++ [(⟨wrap64 (rd yc_ 0), t62, wrap64 (rd yc_ 3), ((Int.tmod (rd yc_ 4) 2) == 1), t63, (((Int.tdiv (rd yc_ 4) 2) % 2) == 1), t65, t66⟩ : S48)]) (wrap64 (x5_1 + 13))) else (none)) else (some (x4_1, x5_1)))) else (some (x4_1, x5_1))) = some (r1, r2) := H
         have A15 := Qz.mk A83
         clear A83
         have HX_ := Qz.mk H
         clear H
         obtain ⟨i020, hi020, _, hsz20, _⟩ := info_parts info5
         obtain ⟨A20, hcut20, hA20, hC20⟩ := print_mid_of (P := Try.prog) (Value.int .u8) 0 22 5 .i64 .i64 Try.underlying22 hi020 hsz20 A0 c0 l0 x5_1 (wrap64 (x5_1 + 13)) (of_decide_eq_true za) (by first | omega | exact of_decide_eq_true za) (of_decide_eq_true za) HC0.out
         rw [← Nyc_.out] at hcut20 hA20 hC20
         have HR180 := Qz.mk (Kd.C_of_reads (h1 := fun _ => rfl) (hA20 _ (Kd.reads_of_C HR0.out)))
         have HC180 := Qz.mk hC20
         clear hA20 hC20 hi020 hsz20
         try go_wp2
         have n0_ := Qz.mk (Kd.Qo HO_4.out)
         have n1_ := Qz.mk (Qb HB.out)
         clear HO_4
         clear HB
         have HO_4 := n0_
         have HB := n1_
         clear n0_ n1_
         have p181 : 0 ≤ (0 : Int) := (by omega)
         have q61 : 0 < (yc_.length : Int) := of_decide_eq_true za
         obtain ⟨ad61, e181, hx61_0⟩ := Kd.at_int HR180.out 0 p181 q61
         have hw61_0 := hx61_0
         (try rw [show ((0 : Int)).toNat = 0 from rfl] at hw61_0)
         (try rw [show 0 * 1 = 0 from rfl] at hw61_0)
         (try rw [Addr.add_zero'] at hw61_0)
         cases e181
         have qi181 : (0 < yc_.length) = True := eq_true (by omega)
         (try rw [show ((0 : Int)).toNat = 0 from rfl] at hx61_0)
         (try rw [Addr.add_zero'] at hx61_0)
         replace hx61_0 := zx HB hx61_0
         replace p181 := eq_true p181
         replace q61 := eq_true q61
         have p183 : 0 ≤ (3 : Int) := (by omega)
         have q67 : 3 < (yc_.length : Int) := of_decide_eq_true za
         obtain ⟨ad67, e183, hx67_0⟩ := Kd.at_int HR180.out 3 p183 q67
         have hw67_0 := hx67_0
         (try rw [show ((3 : Int)).toNat = 3 from rfl] at hw67_0)
         (try rw [show 3 * 1 = 3 from rfl] at hw67_0)
         (try simp only [Nat.reduceMul, Nat.reduceEqDiff, Go.Addr.add, ↓reduceIte] at hw67_0)
         obtain rfl : ad61 = ad67 := (by injection e183)
         (try simp only [show (3 : Int).toNat = 3 from rfl, Nat.reduceMul, Nat.reduceEqDiff, Go.Addr.add, ↓reduceIte] at hx67_0)
         have qi183 : (3 < yc_.length) = True := eq_true (by omega)
         (try rw [show ((3 : Int)).toNat = 3 from rfl] at hx67_0)
         replace hx67_0 := zx HB hx67_0
         replace p183 := eq_true p183
         replace q67 := eq_true q67
         have p184 : 0 ≤ (4 : Int) := (by omega)
         have q68 : 4 < (yc_.length : Int) := of_decide_eq_true za
         obtain ⟨ad68, e184, hx68_0⟩ := Kd.at_int HR180.out 4 p184 q68
         have hw68_0 := hx68_0
         (try rw [show ((4 : Int)).toNat = 4 from rfl] at hw68_0)
         (try rw [show 4 * 1 = 4 from rfl] at hw68_0)
         (try simp only [Nat.reduceMul, Nat.reduceEqDiff, Go.Addr.add, ↓reduceIte] at hw68_0)
         obtain rfl : ad61 = ad68 := (by injection e184)
         (try simp only [show (4 : Int).toNat = 4 from rfl, Nat.reduceMul, Nat.reduceEqDiff, Go.Addr.add, ↓reduceIte] at hx68_0)
         have qi184 : (4 < yc_.length) = True := eq_true (by omega)
         (try rw [show ((4 : Int)).toNat = 4 from rfl] at hx68_0)
         replace hx68_0 := zx HB hx68_0
         replace p184 := eq_true p184
         replace q68 := eq_true q68
         have p186 : 0 ≤ (4 : Int) := (by omega)
         have q69 : 4 < (yc_.length : Int) := of_decide_eq_true za
         obtain ⟨ad69, e186, hx69_0⟩ := Kd.at_int HR180.out 4 p186 q69
         have hw69_0 := hx69_0
         (try rw [show ((4 : Int)).toNat = 4 from rfl] at hw69_0)
         (try rw [show 4 * 1 = 4 from rfl] at hw69_0)
         (try simp only [Nat.reduceMul, Nat.reduceEqDiff, Go.Addr.add, ↓reduceIte] at hw69_0)
         obtain rfl : ad61 = ad69 := (by injection e186)
         (try simp only [show (4 : Int).toNat = 4 from rfl, Nat.reduceMul, Nat.reduceEqDiff, Go.Addr.add, ↓reduceIte] at hx69_0)
         have qi186 : (4 < yc_.length) = True := eq_true (by omega)
         (try rw [show ((4 : Int)).toNat = 4 from rfl] at hx69_0)
         replace hx69_0 := zx HB hx69_0
         replace p186 := eq_true p186
         replace q69 := eq_true q69
         refine start_ (n := 30) (S := fun w' => w'.cell? ad61 = some (.int .u8 (rd yc_ 0)) ∧ w'.cell? ⟨ad61.block, ad61.off + 3, none⟩ = some (.int .u8 (rd yc_ 3)) ∧ w'.cell? ⟨ad61.block, ad61.off + 4, none⟩ = some (.int .u8 (rd yc_ 4)) ∧ w'.cell? ⟨ad61.block, ad61.off + 4, none⟩ = some (.int .u8 (rd yc_ 4))) (ds := []) #[Z, Z, Z, Z, Z, Z, Z, Z, Z, Z, Z, Z, Z, Z, Z, Z, Z, Z, Z, Z, Z, Z, Z, Z, Z, Z, Z, Z, Z, Z] (by kernel_rfl) rfl rfl ⟨((HB.out.cell (World.block_lt_of_cell? w _ hw61_0)).trans hw61_0), ((HB.out.cell (World.block_lt_of_cell? w _ hw67_0)).trans hw67_0), ((HB.out.cell (World.block_lt_of_cell? w _ hw68_0)).trans hw68_0), ((HB.out.cell (World.block_lt_of_cell? w _ hw69_0)).trans hw69_0)⟩ (fun hHeld => ?_); refine with_tabW Zsl3Recs.tab5 Zsl3Recs.bits5 (fun HT_ HW_ => ?_)
         generalize wr.drew = w21 at HO_4 HB hx61_0 hx67_0 hx68_0 hx69_0 hHeld ⊢
         refine zp 0 19 ?_; refine zp 1 20 ?_; refine zp 4 23 ?_; refine zp 6 25 ?_; refine zp 7 26 ?_; refine zp 10 29 ?_; refine zp 11 30 ?_; refine zp 15 34 ?_; refine zp 17 36 ?_; refine zp 18 37 ?_; refine zp 23 42 ?_; refine zp 25 44 ?_; refine zt 2 21 ?_; refine zp 3 22 ?_; refine zt 8 27 ?_; refine zp 9 28 ?_; refine zt 12 31 ?_; refine zp 13 32 ?_; refine zp 14 33 ?_; refine zt 19 38 ?_; refine zp 20 39 ?_; refine zp 21 40 ?_; refine zp 22 41 ?_
         refine join_ (σ := Nat) 1 #[Y, Y, Y, Y, Y, Y, Y, Y, Y, Y, Y, Y, Y, Y, Y, Y, Y, Y, Y, Y, Y, Y, Y, Y, Y, Y, Y, Y, Y, Z] (fun s_ => [(24, .int .i64 t62), (35, .int .i64 t63), (43, .int .i64 t65), (45, .int .i64 t66), (7, .pointer (some ⟨s_, 0, none⟩)), (46, .agg #[.int .i64 (wrap64 (rd yc_ 0)), .int .i64 t62, .int .i64 (wrap64 (rd yc_ 3)), .bool ((Int.tmod (rd yc_ 4) 2) == 1), .int .i64 t63, .bool (((Int.tdiv (rd yc_ 4) 2) % 2) == 1), .int .i64 t65, .int .i64 t66])]) (fun s_ w' => (w'.cell? ad61 = some (.int .u8 (rd yc_ 0)) ∧ w'.cell? ⟨ad61.block, ad61.off + 3, none⟩ = some (.int .u8 (rd yc_ 3)) ∧ w'.cell? ⟨ad61.block, ad61.off + 4, none⟩ = some (.int .u8 (rd yc_ 4)) ∧ w'.cell? ⟨ad61.block, ad61.off + 4, none⟩ = some (.int .u8 (rd yc_ 4))) ∧ (Kd.R k48 48 w' w.heap.size (fun k_ => k_ ≠ s_) u4 x4_1) ∧ (w'.heap[s_]? = some (.cells #[.int .i64 0, .int .i64 0, .int .i64 0, .bool false, .int .i64 0, .bool false, .int .i64 0, .int .i64 0] 48 (0, 0))) ∧ (w.heap.size ≤ s_) ∧ (w.heap.size ≤ s_) ∧ (Below w.heap.size w w')) ?_ ?_
         rotate_left
         ·intro hJ5_16_24_26_28
          refine join_ (σ := Unit) 2 #[Y, Y, Y, Y, Y, Y, Y, Y, Y, Y, Y, Y, Y, Y, Y, Y, Y, Y, Y, Y, Y, Y, Y, Y, Y, Y, Y, Y, Z, Z] (fun s_ => [(24, .int .i64 t62), (35, .int .i64 t63), (43, .int .i64 t65), (45, .int .i64 t66), (46, .agg #[.int .i64 (wrap64 (rd yc_ 0)), .int .i64 t62, .int .i64 (wrap64 (rd yc_ 3)), .bool ((Int.tmod (rd yc_ 4) 2) == 1), .int .i64 t63, .bool (((Int.tdiv (rd yc_ 4) 2) % 2) == 1), .int .i64 t65, .int .i64 t66])]) (fun s_ w' => (w'.cell? ad61 = some (.int .u8 (rd yc_ 0)) ∧ w'.cell? ⟨ad61.block, ad61.off + 3, none⟩ = some (.int .u8 (rd yc_ 3)) ∧ w'.cell? ⟨ad61.block, ad61.off + 4, none⟩ = some (.int .u8 (rd yc_ 4)) ∧ w'.cell? ⟨ad61.block, ad61.off + 4, none⟩ = some (.int .u8 (rd yc_ 4))) ∧ (Kd.R k48 48 w' w.heap.size (fun _ => True) u4 x4_1) ∧ (Below w.heap.size w w')) ?_ ?_
          rotate_left
          ·intro hJ5_16_24_26
           refine join_ (σ := Nat) 3 #[Y, Y, Y, Y, Y, Y, Y, Y, Y, Y, Y, Y, Y, Y, Y, Y, Y, Y, Y, Y, Y, Y, Y, Y, Y, Y, Z, Z, Y, Z] (fun s_ => [(24, .int .i64 t62), (35, .int .i64 t63), (43, .int .i64 t65), (7, .pointer (some ⟨s_, 0, none⟩))]) (fun s_ w' => (w'.cell? ad61 = some (.int .u8 (rd yc_ 0)) ∧ w'.cell? ⟨ad61.block, ad61.off + 3, none⟩ = some (.int .u8 (rd yc_ 3)) ∧ w'.cell? ⟨ad61.block, ad61.off + 4, none⟩ = some (.int .u8 (rd yc_ 4)) ∧ w'.cell? ⟨ad61.block, ad61.off + 4, none⟩ = some (.int .u8 (rd yc_ 4))) ∧ (Kd.R k48 48 w' w.heap.size (fun k_ => k_ ≠ s_) u4 x4_1) ∧ (w'.heap[s_]? = some (.cells #[.int .i64 0, .int .i64 0, .int .i64 0, .bool false, .int .i64 0, .bool false, .int .i64 0, .int .i64 0] 48 (0, 0))) ∧ (w.heap.size ≤ s_) ∧ (w.heap.size ≤ s_) ∧ (Below w.heap.size w w')) ?_ ?_
           rotate_left
           ·intro hJ5_16_24_28
            refine join_ (σ := Unit) 4 #[Y, Y, Y, Y, Y, Y, Y, Y, Y, Y, Y, Y, Y, Y, Y, Y, Y, Y, Y, Y, Y, Y, Y, Y, Y, Y, Z, Z, Z, Z] (fun s_ => [(24, .int .i64 t62), (35, .int .i64 t63), (43, .int .i64 t65)]) (fun s_ w' => (w'.cell? ad61 = some (.int .u8 (rd yc_ 0)) ∧ w'.cell? ⟨ad61.block, ad61.off + 3, none⟩ = some (.int .u8 (rd yc_ 3)) ∧ w'.cell? ⟨ad61.block, ad61.off + 4, none⟩ = some (.int .u8 (rd yc_ 4)) ∧ w'.cell? ⟨ad61.block, ad61.off + 4, none⟩ = some (.int .u8 (rd yc_ 4))) ∧ (Kd.R k48 48 w' w.heap.size (fun _ => True) u4 x4_1) ∧ (Below w.heap.size w w')) ?_ ?_
            rotate_left
            ·intro hJ5_16_24
             refine join_ (σ := Nat) 4 #[Y, Y, Y, Y, Y, Y, Y, Y, Y, Y, Y, Y, Y, Y, Y, Y, Y, Y, Y, Y, Y, Y, Y, Y, Z, Y, Z, Z, Y, Z] (fun s_ => [(24, .int .i64 t62), (35, .int .i64 t63), (7, .pointer (some ⟨s_, 0, none⟩))]) (fun s_ w' => (w'.cell? ad61 = some (.int .u8 (rd yc_ 0)) ∧ w'.cell? ⟨ad61.block, ad61.off + 3, none⟩ = some (.int .u8 (rd yc_ 3)) ∧ w'.cell? ⟨ad61.block, ad61.off + 4, none⟩ = some (.int .u8 (rd yc_ 4)) ∧ w'.cell? ⟨ad61.block, ad61.off + 4, none⟩ = some (.int .u8 (rd yc_ 4))) ∧ (Kd.R k48 48 w' w.heap.size (fun k_ => k_ ≠ s_) u4 x4_1) ∧ (w'.heap[s_]? = some (.cells #[.int .i64 0, .int .i64 0, .int .i64 0, .bool false, .int .i64 0, .bool false, .int .i64 0, .int .i64 0] 48 (0, 0))) ∧ (w.heap.size ≤ s_) ∧ (w.heap.size ≤ s_) ∧ (Below w.heap.size w w')) ?_ ?_
             rotate_left
             ·intro hJ5_16_28
              refine join_ (σ := Unit) 5 #[Y, Y, Y, Y, Y, Y, Y, Y, Y, Y, Y, Y, Y, Y, Y, Y, Y, Y, Y, Y, Y, Y, Y, Y, Z, Y, Z, Z, Z, Z] (fun s_ => [(24, .int .i64 t62), (35, .int .i64 t63)]) (fun s_ w' => (w'.cell? ad61 = some (.int .u8 (rd yc_ 0)) ∧ w'.cell? ⟨ad61.block, ad61.off + 3, none⟩ = some (.int .u8 (rd yc_ 3)) ∧ w'.cell? ⟨ad61.block, ad61.off + 4, none⟩ = some (.int .u8 (rd yc_ 4)) ∧ w'.cell? ⟨ad61.block, ad61.off + 4, none⟩ = some (.int .u8 (rd yc_ 4))) ∧ (Kd.R k48 48 w' w.heap.size (fun _ => True) u4 x4_1) ∧ (Below w.heap.size w w')) ?_ ?_
              rotate_left
              ·intro hJ5_16
               refine join_ (σ := Nat) 5 #[Y, Y, Y, Y, Y, Y, Y, Y, Y, Y, Y, Y, Y, Y, Y, Y, Z, Y, Y, Y, Y, Y, Y, Y, Z, Y, Z, Z, Y, Z] (fun s_ => [(24, .int .i64 t62), (7, .pointer (some ⟨s_, 0, none⟩))]) (fun s_ w' => (w'.cell? ad61 = some (.int .u8 (rd yc_ 0)) ∧ w'.cell? ⟨ad61.block, ad61.off + 3, none⟩ = some (.int .u8 (rd yc_ 3)) ∧ w'.cell? ⟨ad61.block, ad61.off + 4, none⟩ = some (.int .u8 (rd yc_ 4)) ∧ w'.cell? ⟨ad61.block, ad61.off + 4, none⟩ = some (.int .u8 (rd yc_ 4))) ∧ (Kd.R k48 48 w' w.heap.size (fun k_ => k_ ≠ s_) u4 x4_1) ∧ (w'.heap[s_]? = some (.cells #[.int .i64 0, .int .i64 0, .int .i64 0, .bool false, .int .i64 0, .bool false, .int .i64 0, .int .i64 0] 48 (0, 0))) ∧ (w.heap.size ≤ s_) ∧ (w.heap.size ≤ s_) ∧ (Below w.heap.size w w')) ?_ ?_
               rotate_left
               ·intro hJ5_28
                refine join_ (σ := Unit) 6 #[Y, Y, Y, Y, Y, Y, Y, Y, Y, Y, Y, Y, Y, Y, Y, Y, Z, Y, Y, Y, Y, Y, Y, Y, Z, Y, Z, Z, Z, Z] (fun s_ => [(24, .int .i64 t62)]) (fun s_ w' => (w'.cell? ad61 = some (.int .u8 (rd yc_ 0)) ∧ w'.cell? ⟨ad61.block, ad61.off + 3, none⟩ = some (.int .u8 (rd yc_ 3)) ∧ w'.cell? ⟨ad61.block, ad61.off + 4, none⟩ = some (.int .u8 (rd yc_ 4)) ∧ w'.cell? ⟨ad61.block, ad61.off + 4, none⟩ = some (.int .u8 (rd yc_ 4))) ∧ (Kd.R k48 48 w' w.heap.size (fun _ => True) u4 x4_1) ∧ (Below w.heap.size w w')) ?_ ?_
                rotate_left
                ·intro hJ5
                 refine join_ (σ := Nat) 6 #[Y, Y, Y, Y, Y, Z, Y, Y, Y, Y, Y, Y, Y, Y, Y, Y, Z, Y, Y, Y, Y, Y, Y, Y, Z, Y, Z, Z, Y, Z] (fun s_ => [(7, .pointer (some ⟨s_, 0, none⟩))]) (fun s_ w' => (w'.cell? ad61 = some (.int .u8 (rd yc_ 0)) ∧ w'.cell? ⟨ad61.block, ad61.off + 3, none⟩ = some (.int .u8 (rd yc_ 3)) ∧ w'.cell? ⟨ad61.block, ad61.off + 4, none⟩ = some (.int .u8 (rd yc_ 4)) ∧ w'.cell? ⟨ad61.block, ad61.off + 4, none⟩ = some (.int .u8 (rd yc_ 4))) ∧ (Kd.R k48 48 w' w.heap.size (fun k_ => k_ ≠ s_) u4 x4_1) ∧ (w'.heap[s_]? = some (.cells #[.int .i64 0, .int .i64 0, .int .i64 0, .bool false, .int .i64 0, .bool false, .int .i64 0, .int .i64 0] 48 (0, 0))) ∧ (w.heap.size ≤ s_) ∧ (w.heap.size ≤ s_) ∧ (Below w.heap.size w w')) ?_ ?_
                 rotate_left
                 ·intro hJ28
                  refine two_ (i := 5) (j := 28) (Ni := some 24) (Nj := some 7) #[Y, Y, Y, Y, Y, Y, Y, Y, Y, Y, Y, Y, Y, Y, Y, Y, Z, Y, Y, Y, Y, Y, Y, Y, Z, Y, Z, Z, Z, Z] #[Y, Y, Y, Y, Y, Z, Y, Y, Y, Y, Y, Y, Y, Y, Y, Y, Z, Y, Y, Y, Y, Y, Y, Y, Z, Y, Z, Z, Y, Z] rfl rfl rfl rfl (two_of HT_.out (by kernel_rfl)) (by decide) (by decide) (fun K hK => ?_) (fun K hK => ?_)
                  ·skip
                   refine goes_ Try.func79 (by kernel_rfl) rfl #[.slice (some ad61) yc_.length (c0 - x5_1.toNat), .int .i64 1, .int .i64 2] (by rfl) rfl rfl yc0 ?_
                   with_reducible refine (Zsl1Take.calls k1 _ _ yc_ 1 2 t62 _ ?side1 ?side2 A9.out).mono ?_
                   (case side1 => exact zc (Kd.Qac HR180.out HB.out))
                   (case side2 => exact HC180.out)
                   rintro e w' ⟨rfl, ⟨nd, rfl⟩⟩
                   refine ⟨_, rfl, ?_⟩
                   refine hK.out _ _ ⟨((HB.out.cell (World.block_lt_of_cell? w _ hw61_0)).trans hw61_0), ((HB.out.cell (World.block_lt_of_cell? w _ hw67_0)).trans hw67_0), ((HB.out.cell (World.block_lt_of_cell? w _ hw68_0)).trans hw68_0), ((HB.out.cell (World.block_lt_of_cell? w _ hw69_0)).trans hw69_0)⟩ (fun hHeld => ?_)
                   clear hK K
                   refine norm_ (a' := ?_) ?_ ?_
                   rotate_left
                   ·show Act.put _ (some 24) _ = _
                    simp only [Act.put, List.setIfInBounds_toArray, List.set_cons_zero, List.set_cons_succ, Qar, Qas]
                    rfl
                   exact norm_ zN (hJ5 () _ ⟨hHeld, (zr HO_4), zb⟩)
                  skip
                  refine box_step ?hg (N := 7) ?hd (cs := #[.int .i64 0, .int .i64 0, .int .i64 0, .bool false, .int .i64 0, .bool false, .int .i64 0, .int .i64 0]) (t := 48) ?hr ?_; (case hd => rfl); (case hg => rfl); (case hr => exact yc2)
                  intro gb59 hg w22 hbox hb
                  have n0_ := Qz.mk (Kd.Qy (Kd.Qap (zr HO_4) gb59 (Nat.le_of_eq hg.symm)) hb)
                  have n1_ := Qz.mk (Qq zb hb)
                  have n2_ := Qz.mk (hbox)
                  have n3_ := Qz.mk ((zh hg : w.heap.size ≤ gb59))
                  have n4_ := Qz.mk ((zh hg : w.heap.size ≤ gb59))
                  clear HO_4
                  clear HB
                  have HO_4 := n0_
                  have HB := n1_
                  have BK59 := n2_
                  have GW59 := n3_
                  have GE59 := n4_
                  clear n0_ n1_ n2_ n3_ n4_
                  clear hb hbox hg
                  refine hK.out _ _ ⟨((HB.out.cell (World.block_lt_of_cell? w _ hw61_0)).trans hw61_0), ((HB.out.cell (World.block_lt_of_cell? w _ hw67_0)).trans hw67_0), ((HB.out.cell (World.block_lt_of_cell? w _ hw68_0)).trans hw68_0), ((HB.out.cell (World.block_lt_of_cell? w _ hw69_0)).trans hw69_0)⟩ (fun hHeld => ?_)
                  clear hK K
                  refine norm_ (a' := ?_) ?_ ?_
                  rotate_left
                  ·show Act.put _ (some 7) _ = _
                   simp only [Act.put, List.setIfInBounds_toArray, List.set_cons_zero, List.set_cons_succ, Qar, Qas]
                   rfl
                  exact norm_ zN (hJ28 (gb59) _ ⟨hHeld, yc1, zk, GW59.out, GE59.out, zb⟩)
                 skip
                 rintro gb59 w23 ⟨hS_, h0_, h1_, h2_, h3_, h4_⟩
                 have n0_ : Qz (Kd.R k48 48 w23 w.heap.size (fun k_ => k_ ≠ gb59) u4 x4_1) := ⟨h0_⟩
                 have n1_ : Qz (w23.heap[gb59]? = some (.cells #[.int .i64 0, .int .i64 0, .int .i64 0, .bool false, .int .i64 0, .bool false, .int .i64 0, .int .i64 0] 48 (0, 0))) := ⟨h1_⟩
                 have n2_ : Qz (w.heap.size ≤ gb59) := ⟨h2_⟩
                 have n3_ : Qz (w.heap.size ≤ gb59) := ⟨h3_⟩
                 have n4_ : Qz (Below w.heap.size w w23) := ⟨h4_⟩
                 clear HO_4
                 clear HB
                 clear h0_ h1_ h2_ h3_ h4_
                 have HO_4 := n0_
                 have BK59 := n1_
                 have GW59 := n2_
                 have GE59 := n3_
                 have HB := n4_
                 clear n0_ n1_ n2_ n3_ n4_
                 have hHeld : w23.cell? ad61 = some (.int .u8 (rd yc_ 0)) ∧ w23.cell? ⟨ad61.block, ad61.off + 3, none⟩ = some (.int .u8 (rd yc_ 3)) ∧ w23.cell? ⟨ad61.block, ad61.off + 4, none⟩ = some (.int .u8 (rd yc_ 4)) ∧ w23.cell? ⟨ad61.block, ad61.off + 4, none⟩ = some (.int .u8 (rd yc_ 4)) := hS_
                 refine norm_ (a' := ?_) ?_ ?_
                 rotate_left
                 ·simp only [putAll, Act.put, List.setIfInBounds_toArray, List.set_cons_zero, List.set_cons_succ]
                  rfl
                 refine one_ (i := 5) (N := some 24) #[Y, Y, Y, Y, Y, Y, Y, Y, Y, Y, Y, Y, Y, Y, Y, Y, Z, Y, Y, Y, Y, Y, Y, Y, Z, Y, Z, Z, Y, Z] rfl rfl (one_of HT_.out (by kernel_rfl)) (by decide) (fun K hK => ?_)
                 refine goes_ Try.func79 (by kernel_rfl) rfl #[.slice (some ad61) yc_.length (c0 - x5_1.toNat), .int .i64 1, .int .i64 2] (by rfl) rfl rfl yc0 ?_
                 with_reducible refine (Zsl1Take.calls k1 _ _ yc_ 1 2 t62 _ ?side1 ?side2 A9.out).mono ?_
                 (case side1 => exact zc (Kd.Qac HR180.out HB.out))
                 (case side2 => exact HC180.out)
                 rintro e w' ⟨rfl, ⟨nd, rfl⟩⟩
                 refine ⟨_, rfl, ?_⟩
                 refine hK.out _ _ ⟨((HB.out.cell (World.block_lt_of_cell? w _ hw61_0)).trans hw61_0), ((HB.out.cell (World.block_lt_of_cell? w _ hw67_0)).trans hw67_0), ((HB.out.cell (World.block_lt_of_cell? w _ hw68_0)).trans hw68_0), ((HB.out.cell (World.block_lt_of_cell? w _ hw69_0)).trans hw69_0)⟩ (fun hHeld => ?_)
                 clear hK K
                 refine norm_ (a' := ?_) ?_ ?_
                 rotate_left
                 ·show Act.put _ (some 24) _ = _
                  simp only [Act.put, List.setIfInBounds_toArray, List.set_cons_zero, List.set_cons_succ, Qar, Qas]
                  rfl
                 exact norm_ zN (hJ5_28 (gb59) _ ⟨hHeld, (zr HO_4), zk, GW59.out, GE59.out, zb⟩)
                skip
                rintro _ w22 ⟨hS_, h0_, h1_⟩
                have n0_ : Qz (Kd.R k48 48 w22 w.heap.size (fun _ => True) u4 x4_1) := ⟨h0_⟩
                have n1_ : Qz (Below w.heap.size w w22) := ⟨h1_⟩
                clear HO_4
                clear HB
                clear h0_ h1_
                have HO_4 := n0_
                have HB := n1_
                clear n0_ n1_
                have hHeld : w22.cell? ad61 = some (.int .u8 (rd yc_ 0)) ∧ w22.cell? ⟨ad61.block, ad61.off + 3, none⟩ = some (.int .u8 (rd yc_ 3)) ∧ w22.cell? ⟨ad61.block, ad61.off + 4, none⟩ = some (.int .u8 (rd yc_ 4)) ∧ w22.cell? ⟨ad61.block, ad61.off + 4, none⟩ = some (.int .u8 (rd yc_ 4)) := hS_
                refine norm_ (a' := ?_) ?_ ?_
                rotate_left
                ·simp only [putAll, Act.put, List.setIfInBounds_toArray, List.set_cons_zero, List.set_cons_succ]
                 rfl
                refine two_ (i := 16) (j := 28) (Ni := some 35) (Nj := some 7) #[Y, Y, Y, Y, Y, Y, Y, Y, Y, Y, Y, Y, Y, Y, Y, Y, Y, Y, Y, Y, Y, Y, Y, Y, Z, Y, Z, Z, Z, Z] #[Y, Y, Y, Y, Y, Y, Y, Y, Y, Y, Y, Y, Y, Y, Y, Y, Z, Y, Y, Y, Y, Y, Y, Y, Z, Y, Z, Z, Y, Z] rfl rfl rfl rfl (two_of HT_.out (by kernel_rfl)) (by decide) (by decide) (fun K hK => ?_) (fun K hK => ?_)
                ·skip
                 refine goes_ Try.func79 (by kernel_rfl) rfl #[.slice (some ad61) yc_.length (c0 - x5_1.toNat), .int .i64 5, .int .i64 2] (by rfl) rfl rfl yc0 ?_
                 with_reducible refine (Zsl1Take.calls k1 _ _ yc_ 5 2 t63 _ ?side1 ?side2 A12.out).mono ?_
                 (case side1 => exact zc (Kd.Qac HR180.out HB.out))
                 (case side2 => exact HC180.out)
                 rintro e w' ⟨rfl, ⟨nd, rfl⟩⟩
                 refine ⟨_, rfl, ?_⟩
                 refine hK.out _ _ ⟨((HB.out.cell (World.block_lt_of_cell? w _ hw61_0)).trans hw61_0), ((HB.out.cell (World.block_lt_of_cell? w _ hw67_0)).trans hw67_0), ((HB.out.cell (World.block_lt_of_cell? w _ hw68_0)).trans hw68_0), ((HB.out.cell (World.block_lt_of_cell? w _ hw69_0)).trans hw69_0)⟩ (fun hHeld => ?_)
                 clear hK K
                 refine norm_ (a' := ?_) ?_ ?_
                 rotate_left
                 ·show Act.put _ (some 35) _ = _
                  simp only [Act.put, List.setIfInBounds_toArray, List.set_cons_zero, List.set_cons_succ, Qar, Qas]
                  rfl
                 exact norm_ zN (hJ5_16 () _ ⟨hHeld, (zr HO_4), zb⟩)
                skip
                refine box_step ?hg (N := 7) ?hd (cs := #[.int .i64 0, .int .i64 0, .int .i64 0, .bool false, .int .i64 0, .bool false, .int .i64 0, .int .i64 0]) (t := 48) ?hr ?_; (case hd => rfl); (case hg => rfl); (case hr => exact yc2)
                intro gb59 hg w23 hbox hb
                have n0_ := Qz.mk (Kd.Qy (Kd.Qap (zr HO_4) gb59 (Nat.le_of_eq hg.symm)) hb)
                have n1_ := Qz.mk (Qq zb hb)
                have n2_ := Qz.mk (hbox)
                have n3_ := Qz.mk ((zh hg : w.heap.size ≤ gb59))
                have n4_ := Qz.mk ((zh hg : w.heap.size ≤ gb59))
                clear HO_4
                clear HB
                have HO_4 := n0_
                have HB := n1_
                have BK59 := n2_
                have GW59 := n3_
                have GE59 := n4_
                clear n0_ n1_ n2_ n3_ n4_
                clear hb hbox hg
                refine hK.out _ _ ⟨((HB.out.cell (World.block_lt_of_cell? w _ hw61_0)).trans hw61_0), ((HB.out.cell (World.block_lt_of_cell? w _ hw67_0)).trans hw67_0), ((HB.out.cell (World.block_lt_of_cell? w _ hw68_0)).trans hw68_0), ((HB.out.cell (World.block_lt_of_cell? w _ hw69_0)).trans hw69_0)⟩ (fun hHeld => ?_)
                clear hK K
                refine norm_ (a' := ?_) ?_ ?_
                rotate_left
                ·show Act.put _ (some 7) _ = _
                 simp only [Act.put, List.setIfInBounds_toArray, List.set_cons_zero, List.set_cons_succ, Qar, Qas]
                 rfl
                exact norm_ zN (hJ5_28 (gb59) _ ⟨hHeld, yc1, zk, GW59.out, GE59.out, zb⟩)
               skip
               rintro gb59 w23 ⟨hS_, h0_, h1_, h2_, h3_, h4_⟩
               have n0_ : Qz (Kd.R k48 48 w23 w.heap.size (fun k_ => k_ ≠ gb59) u4 x4_1) := ⟨h0_⟩
               have n1_ : Qz (w23.heap[gb59]? = some (.cells #[.int .i64 0, .int .i64 0, .int .i64 0, .bool false, .int .i64 0, .bool false, .int .i64 0, .int .i64 0] 48 (0, 0))) := ⟨h1_⟩
               have n2_ : Qz (w.heap.size ≤ gb59) := ⟨h2_⟩
               have n3_ : Qz (w.heap.size ≤ gb59) := ⟨h3_⟩
               have n4_ : Qz (Below w.heap.size w w23) := ⟨h4_⟩
               clear HO_4
               clear HB
               clear h0_ h1_ h2_ h3_ h4_
               have HO_4 := n0_
               have BK59 := n1_
               have GW59 := n2_
               have GE59 := n3_
               have HB := n4_
               clear n0_ n1_ n2_ n3_ n4_
               have hHeld : w23.cell? ad61 = some (.int .u8 (rd yc_ 0)) ∧ w23.cell? ⟨ad61.block, ad61.off + 3, none⟩ = some (.int .u8 (rd yc_ 3)) ∧ w23.cell? ⟨ad61.block, ad61.off + 4, none⟩ = some (.int .u8 (rd yc_ 4)) ∧ w23.cell? ⟨ad61.block, ad61.off + 4, none⟩ = some (.int .u8 (rd yc_ 4)) := hS_
               refine norm_ (a' := ?_) ?_ ?_
               rotate_left
               ·simp only [putAll, Act.put, List.setIfInBounds_toArray, List.set_cons_zero, List.set_cons_succ]
                rfl
               refine one_ (i := 16) (N := some 35) #[Y, Y, Y, Y, Y, Y, Y, Y, Y, Y, Y, Y, Y, Y, Y, Y, Y, Y, Y, Y, Y, Y, Y, Y, Z, Y, Z, Z, Y, Z] rfl rfl (one_of HT_.out (by kernel_rfl)) (by decide) (fun K hK => ?_)
               refine goes_ Try.func79 (by kernel_rfl) rfl #[.slice (some ad61) yc_.length (c0 - x5_1.toNat), .int .i64 5, .int .i64 2] (by rfl) rfl rfl yc0 ?_
               with_reducible refine (Zsl1Take.calls k1 _ _ yc_ 5 2 t63 _ ?side1 ?side2 A12.out).mono ?_
               (case side1 => exact zc (Kd.Qac HR180.out HB.out))
               (case side2 => exact HC180.out)
               rintro e w' ⟨rfl, ⟨nd, rfl⟩⟩
               refine ⟨_, rfl, ?_⟩
               refine hK.out _ _ ⟨((HB.out.cell (World.block_lt_of_cell? w _ hw61_0)).trans hw61_0), ((HB.out.cell (World.block_lt_of_cell? w _ hw67_0)).trans hw67_0), ((HB.out.cell (World.block_lt_of_cell? w _ hw68_0)).trans hw68_0), ((HB.out.cell (World.block_lt_of_cell? w _ hw69_0)).trans hw69_0)⟩ (fun hHeld => ?_)
               clear hK K
               refine norm_ (a' := ?_) ?_ ?_
               rotate_left
               ·show Act.put _ (some 35) _ = _
                simp only [Act.put, List.setIfInBounds_toArray, List.set_cons_zero, List.set_cons_succ, Qar, Qas]
                rfl
               exact norm_ zN (hJ5_16_28 (gb59) _ ⟨hHeld, (zr HO_4), zk, GW59.out, GE59.out, zb⟩)
              skip
              rintro _ w22 ⟨hS_, h0_, h1_⟩
              have n0_ : Qz (Kd.R k48 48 w22 w.heap.size (fun _ => True) u4 x4_1) := ⟨h0_⟩
              have n1_ : Qz (Below w.heap.size w w22) := ⟨h1_⟩
              clear HO_4
              clear HB
              clear h0_ h1_
              have HO_4 := n0_
              have HB := n1_
              clear n0_ n1_
              have hHeld : w22.cell? ad61 = some (.int .u8 (rd yc_ 0)) ∧ w22.cell? ⟨ad61.block, ad61.off + 3, none⟩ = some (.int .u8 (rd yc_ 3)) ∧ w22.cell? ⟨ad61.block, ad61.off + 4, none⟩ = some (.int .u8 (rd yc_ 4)) ∧ w22.cell? ⟨ad61.block, ad61.off + 4, none⟩ = some (.int .u8 (rd yc_ 4)) := hS_
              refine norm_ (a' := ?_) ?_ ?_
              rotate_left
              ·simp only [putAll, Act.put, List.setIfInBounds_toArray, List.set_cons_zero, List.set_cons_succ]
               rfl
              refine two_ (i := 24) (j := 28) (Ni := some 43) (Nj := some 7) #[Y, Y, Y, Y, Y, Y, Y, Y, Y, Y, Y, Y, Y, Y, Y, Y, Y, Y, Y, Y, Y, Y, Y, Y, Y, Y, Z, Z, Z, Z] #[Y, Y, Y, Y, Y, Y, Y, Y, Y, Y, Y, Y, Y, Y, Y, Y, Y, Y, Y, Y, Y, Y, Y, Y, Z, Y, Z, Z, Y, Z] rfl rfl rfl rfl (two_of HT_.out (by kernel_rfl)) (by decide) (by decide) (fun K hK => ?_) (fun K hK => ?_)
              ·skip
               refine goes_ Try.func79 (by kernel_rfl) rfl #[.slice (some ad61) yc_.length (c0 - x5_1.toNat), .int .i64 7, .int .i64 2] (by rfl) rfl rfl yc0 ?_
               with_reducible refine (Zsl1Take.calls k1 _ _ yc_ 7 2 t65 _ ?side1 ?side2 A13.out).mono ?_
               (case side1 => exact zc (Kd.Qac HR180.out HB.out))
               (case side2 => exact HC180.out)
               rintro e w' ⟨rfl, ⟨nd, rfl⟩⟩
               refine ⟨_, rfl, ?_⟩
               refine hK.out _ _ ⟨((HB.out.cell (World.block_lt_of_cell? w _ hw61_0)).trans hw61_0), ((HB.out.cell (World.block_lt_of_cell? w _ hw67_0)).trans hw67_0), ((HB.out.cell (World.block_lt_of_cell? w _ hw68_0)).trans hw68_0), ((HB.out.cell (World.block_lt_of_cell? w _ hw69_0)).trans hw69_0)⟩ (fun hHeld => ?_)
               clear hK K
               refine norm_ (a' := ?_) ?_ ?_
               rotate_left
               ·show Act.put _ (some 43) _ = _
                simp only [Act.put, List.setIfInBounds_toArray, List.set_cons_zero, List.set_cons_succ, Qar, Qas]
                rfl
               exact norm_ zN (hJ5_16_24 () _ ⟨hHeld, (zr HO_4), zb⟩)
              skip
              refine box_step ?hg (N := 7) ?hd (cs := #[.int .i64 0, .int .i64 0, .int .i64 0, .bool false, .int .i64 0, .bool false, .int .i64 0, .int .i64 0]) (t := 48) ?hr ?_; (case hd => rfl); (case hg => rfl); (case hr => exact yc2)
              intro gb59 hg w23 hbox hb
              have n0_ := Qz.mk (Kd.Qy (Kd.Qap (zr HO_4) gb59 (Nat.le_of_eq hg.symm)) hb)
              have n1_ := Qz.mk (Qq zb hb)
              have n2_ := Qz.mk (hbox)
              have n3_ := Qz.mk ((zh hg : w.heap.size ≤ gb59))
              have n4_ := Qz.mk ((zh hg : w.heap.size ≤ gb59))
              clear HO_4
              clear HB
              have HO_4 := n0_
              have HB := n1_
              have BK59 := n2_
              have GW59 := n3_
              have GE59 := n4_
              clear n0_ n1_ n2_ n3_ n4_
              clear hb hbox hg
              refine hK.out _ _ ⟨((HB.out.cell (World.block_lt_of_cell? w _ hw61_0)).trans hw61_0), ((HB.out.cell (World.block_lt_of_cell? w _ hw67_0)).trans hw67_0), ((HB.out.cell (World.block_lt_of_cell? w _ hw68_0)).trans hw68_0), ((HB.out.cell (World.block_lt_of_cell? w _ hw69_0)).trans hw69_0)⟩ (fun hHeld => ?_)
              clear hK K
              refine norm_ (a' := ?_) ?_ ?_
              rotate_left
              ·show Act.put _ (some 7) _ = _
               simp only [Act.put, List.setIfInBounds_toArray, List.set_cons_zero, List.set_cons_succ, Qar, Qas]
               rfl
              exact norm_ zN (hJ5_16_28 (gb59) _ ⟨hHeld, yc1, zk, GW59.out, GE59.out, zb⟩)
             skip
             rintro gb59 w23 ⟨hS_, h0_, h1_, h2_, h3_, h4_⟩
             have n0_ : Qz (Kd.R k48 48 w23 w.heap.size (fun k_ => k_ ≠ gb59) u4 x4_1) := ⟨h0_⟩
             have n1_ : Qz (w23.heap[gb59]? = some (.cells #[.int .i64 0, .int .i64 0, .int .i64 0, .bool false, .int .i64 0, .bool false, .int .i64 0, .int .i64 0] 48 (0, 0))) := ⟨h1_⟩
             have n2_ : Qz (w.heap.size ≤ gb59) := ⟨h2_⟩
             have n3_ : Qz (w.heap.size ≤ gb59) := ⟨h3_⟩
             have n4_ : Qz (Below w.heap.size w w23) := ⟨h4_⟩
             clear HO_4
             clear HB
             clear h0_ h1_ h2_ h3_ h4_
             have HO_4 := n0_
             have BK59 := n1_
             have GW59 := n2_
             have GE59 := n3_
             have HB := n4_
             clear n0_ n1_ n2_ n3_ n4_
             have hHeld : w23.cell? ad61 = some (.int .u8 (rd yc_ 0)) ∧ w23.cell? ⟨ad61.block, ad61.off + 3, none⟩ = some (.int .u8 (rd yc_ 3)) ∧ w23.cell? ⟨ad61.block, ad61.off + 4, none⟩ = some (.int .u8 (rd yc_ 4)) ∧ w23.cell? ⟨ad61.block, ad61.off + 4, none⟩ = some (.int .u8 (rd yc_ 4)) := hS_
             refine norm_ (a' := ?_) ?_ ?_
             rotate_left
             ·simp only [putAll, Act.put, List.setIfInBounds_toArray, List.set_cons_zero, List.set_cons_succ]
              rfl
             refine one_ (i := 24) (N := some 43) #[Y, Y, Y, Y, Y, Y, Y, Y, Y, Y, Y, Y, Y, Y, Y, Y, Y, Y, Y, Y, Y, Y, Y, Y, Y, Y, Z, Z, Y, Z] rfl rfl (one_of HT_.out (by kernel_rfl)) (by decide) (fun K hK => ?_)
             refine goes_ Try.func79 (by kernel_rfl) rfl #[.slice (some ad61) yc_.length (c0 - x5_1.toNat), .int .i64 7, .int .i64 2] (by rfl) rfl rfl yc0 ?_
             with_reducible refine (Zsl1Take.calls k1 _ _ yc_ 7 2 t65 _ ?side1 ?side2 A13.out).mono ?_
             (case side1 => exact zc (Kd.Qac HR180.out HB.out))
             (case side2 => exact HC180.out)
             rintro e w' ⟨rfl, ⟨nd, rfl⟩⟩
             refine ⟨_, rfl, ?_⟩
             refine hK.out _ _ ⟨((HB.out.cell (World.block_lt_of_cell? w _ hw61_0)).trans hw61_0), ((HB.out.cell (World.block_lt_of_cell? w _ hw67_0)).trans hw67_0), ((HB.out.cell (World.block_lt_of_cell? w _ hw68_0)).trans hw68_0), ((HB.out.cell (World.block_lt_of_cell? w _ hw69_0)).trans hw69_0)⟩ (fun hHeld => ?_)
             clear hK K
             refine norm_ (a' := ?_) ?_ ?_
             rotate_left
             ·show Act.put _ (some 43) _ = _
              simp only [Act.put, List.setIfInBounds_toArray, List.set_cons_zero, List.set_cons_succ, Qar, Qas]
              rfl
             exact norm_ zN (hJ5_16_24_28 (gb59) _ ⟨hHeld, (zr HO_4), zk, GW59.out, GE59.out, zb⟩)
            skip
            rintro _ w22 ⟨hS_, h0_, h1_⟩
            have n0_ : Qz (Kd.R k48 48 w22 w.heap.size (fun _ => True) u4 x4_1) := ⟨h0_⟩
            have n1_ : Qz (Below w.heap.size w w22) := ⟨h1_⟩
            clear HO_4
            clear HB
            clear h0_ h1_
            have HO_4 := n0_
            have HB := n1_
            clear n0_ n1_
            have hHeld : w22.cell? ad61 = some (.int .u8 (rd yc_ 0)) ∧ w22.cell? ⟨ad61.block, ad61.off + 3, none⟩ = some (.int .u8 (rd yc_ 3)) ∧ w22.cell? ⟨ad61.block, ad61.off + 4, none⟩ = some (.int .u8 (rd yc_ 4)) ∧ w22.cell? ⟨ad61.block, ad61.off + 4, none⟩ = some (.int .u8 (rd yc_ 4)) := hS_
            refine norm_ (a' := ?_) ?_ ?_
            rotate_left
            ·simp only [putAll, Act.put, List.setIfInBounds_toArray, List.set_cons_zero, List.set_cons_succ]
             rfl
            refine two_ (i := 26) (j := 28) (Ni := some 45) (Nj := some 7) #[Y, Y, Y, Y, Y, Y, Y, Y, Y, Y, Y, Y, Y, Y, Y, Y, Y, Y, Y, Y, Y, Y, Y, Y, Y, Y, Y, Z, Z, Z] #[Y, Y, Y, Y, Y, Y, Y, Y, Y, Y, Y, Y, Y, Y, Y, Y, Y, Y, Y, Y, Y, Y, Y, Y, Y, Y, Z, Z, Y, Z] rfl rfl rfl rfl (two_of HT_.out (by kernel_rfl)) (by decide) (by decide) (fun K hK => ?_) (fun K hK => ?_)
            ·skip
             refine goes_ Try.func79 (by kernel_rfl) rfl #[.slice (some ad61) yc_.length (c0 - x5_1.toNat), .int .i64 9, .int .i64 2] (by rfl) rfl rfl yc0 ?_
             with_reducible refine (Zsl1Take.calls k1 _ _ yc_ 9 2 t66 _ ?side1 ?side2 A14.out).mono ?_
             (case side1 => exact zc (Kd.Qac HR180.out HB.out))
             (case side2 => exact HC180.out)
             rintro e w' ⟨rfl, ⟨nd, rfl⟩⟩
             refine ⟨_, rfl, ?_⟩
             refine hK.out _ _ ⟨((HB.out.cell (World.block_lt_of_cell? w _ hw61_0)).trans hw61_0), ((HB.out.cell (World.block_lt_of_cell? w _ hw67_0)).trans hw67_0), ((HB.out.cell (World.block_lt_of_cell? w _ hw68_0)).trans hw68_0), ((HB.out.cell (World.block_lt_of_cell? w _ hw69_0)).trans hw69_0)⟩ (fun hHeld => ?_)
             clear hK K
             refine norm_ (a' := ?_) ?_ ?_
             rotate_left
             ·show Act.put _ (some 45) _ = _
              simp only [Act.put, List.setIfInBounds_toArray, List.set_cons_zero, List.set_cons_succ, Qar, Qas]
              rfl
             refine zp 27 46 ?_
             exact norm_ zN (hJ5_16_24_26 () _ ⟨hHeld, (zr HO_4), zb⟩)
            skip
            refine box_step ?hg (N := 7) ?hd (cs := #[.int .i64 0, .int .i64 0, .int .i64 0, .bool false, .int .i64 0, .bool false, .int .i64 0, .int .i64 0]) (t := 48) ?hr ?_; (case hd => rfl); (case hg => rfl); (case hr => exact yc2)
            intro gb59 hg w23 hbox hb
            have n0_ := Qz.mk (Kd.Qy (Kd.Qap (zr HO_4) gb59 (Nat.le_of_eq hg.symm)) hb)
            have n1_ := Qz.mk (Qq zb hb)
            have n2_ := Qz.mk (hbox)
            have n3_ := Qz.mk ((zh hg : w.heap.size ≤ gb59))
            have n4_ := Qz.mk ((zh hg : w.heap.size ≤ gb59))
            clear HO_4
            clear HB
            have HO_4 := n0_
            have HB := n1_
            have BK59 := n2_
            have GW59 := n3_
            have GE59 := n4_
            clear n0_ n1_ n2_ n3_ n4_
            clear hb hbox hg
            refine hK.out _ _ ⟨((HB.out.cell (World.block_lt_of_cell? w _ hw61_0)).trans hw61_0), ((HB.out.cell (World.block_lt_of_cell? w _ hw67_0)).trans hw67_0), ((HB.out.cell (World.block_lt_of_cell? w _ hw68_0)).trans hw68_0), ((HB.out.cell (World.block_lt_of_cell? w _ hw69_0)).trans hw69_0)⟩ (fun hHeld => ?_)
            clear hK K
            refine norm_ (a' := ?_) ?_ ?_
            rotate_left
            ·show Act.put _ (some 7) _ = _
             simp only [Act.put, List.setIfInBounds_toArray, List.set_cons_zero, List.set_cons_succ, Qar, Qas]
             rfl
            exact norm_ zN (hJ5_16_24_28 (gb59) _ ⟨hHeld, yc1, zk, GW59.out, GE59.out, zb⟩)
           skip
           rintro gb59 w23 ⟨hS_, h0_, h1_, h2_, h3_, h4_⟩
           have n0_ : Qz (Kd.R k48 48 w23 w.heap.size (fun k_ => k_ ≠ gb59) u4 x4_1) := ⟨h0_⟩
           have n1_ : Qz (w23.heap[gb59]? = some (.cells #[.int .i64 0, .int .i64 0, .int .i64 0, .bool false, .int .i64 0, .bool false, .int .i64 0, .int .i64 0] 48 (0, 0))) := ⟨h1_⟩
           have n2_ : Qz (w.heap.size ≤ gb59) := ⟨h2_⟩
           have n3_ : Qz (w.heap.size ≤ gb59) := ⟨h3_⟩
           have n4_ : Qz (Below w.heap.size w w23) := ⟨h4_⟩
           clear HO_4
           clear HB
           clear h0_ h1_ h2_ h3_ h4_
           have HO_4 := n0_
           have BK59 := n1_
           have GW59 := n2_
           have GE59 := n3_
           have HB := n4_
           clear n0_ n1_ n2_ n3_ n4_
           have hHeld : w23.cell? ad61 = some (.int .u8 (rd yc_ 0)) ∧ w23.cell? ⟨ad61.block, ad61.off + 3, none⟩ = some (.int .u8 (rd yc_ 3)) ∧ w23.cell? ⟨ad61.block, ad61.off + 4, none⟩ = some (.int .u8 (rd yc_ 4)) ∧ w23.cell? ⟨ad61.block, ad61.off + 4, none⟩ = some (.int .u8 (rd yc_ 4)) := hS_
           refine norm_ (a' := ?_) ?_ ?_
           rotate_left
           ·simp only [putAll, Act.put, List.setIfInBounds_toArray, List.set_cons_zero, List.set_cons_succ]
            rfl
           refine one_ (i := 26) (N := some 45) #[Y, Y, Y, Y, Y, Y, Y, Y, Y, Y, Y, Y, Y, Y, Y, Y, Y, Y, Y, Y, Y, Y, Y, Y, Y, Y, Y, Z, Y, Z] rfl rfl (one_of HT_.out (by kernel_rfl)) (by decide) (fun K hK => ?_)
           refine goes_ Try.func79 (by kernel_rfl) rfl #[.slice (some ad61) yc_.length (c0 - x5_1.toNat), .int .i64 9, .int .i64 2] (by rfl) rfl rfl yc0 ?_
           with_reducible refine (Zsl1Take.calls k1 _ _ yc_ 9 2 t66 _ ?side1 ?side2 A14.out).mono ?_
           (case side1 => exact zc (Kd.Qac HR180.out HB.out))
           (case side2 => exact HC180.out)
           rintro e w' ⟨rfl, ⟨nd, rfl⟩⟩
           refine ⟨_, rfl, ?_⟩
           refine hK.out _ _ ⟨((HB.out.cell (World.block_lt_of_cell? w _ hw61_0)).trans hw61_0), ((HB.out.cell (World.block_lt_of_cell? w _ hw67_0)).trans hw67_0), ((HB.out.cell (World.block_lt_of_cell? w _ hw68_0)).trans hw68_0), ((HB.out.cell (World.block_lt_of_cell? w _ hw69_0)).trans hw69_0)⟩ (fun hHeld => ?_)
           clear hK K
           refine norm_ (a' := ?_) ?_ ?_
           rotate_left
           ·show Act.put _ (some 45) _ = _
            simp only [Act.put, List.setIfInBounds_toArray, List.set_cons_zero, List.set_cons_succ, Qar, Qas]
            rfl
           refine zp 27 46 ?_
           exact norm_ zN (hJ5_16_24_26_28 (gb59) _ ⟨hHeld, (zr HO_4), zk, GW59.out, GE59.out, zb⟩)
          skip
          rintro _ w22 ⟨hS_, h0_, h1_⟩
          have n0_ : Qz (Kd.R k48 48 w22 w.heap.size (fun _ => True) u4 x4_1) := ⟨h0_⟩
          have n1_ : Qz (Below w.heap.size w w22) := ⟨h1_⟩
          clear HO_4
          clear HB
          clear h0_ h1_
          have HO_4 := n0_
          have HB := n1_
          clear n0_ n1_
          have hHeld : w22.cell? ad61 = some (.int .u8 (rd yc_ 0)) ∧ w22.cell? ⟨ad61.block, ad61.off + 3, none⟩ = some (.int .u8 (rd yc_ 3)) ∧ w22.cell? ⟨ad61.block, ad61.off + 4, none⟩ = some (.int .u8 (rd yc_ 4)) ∧ w22.cell? ⟨ad61.block, ad61.off + 4, none⟩ = some (.int .u8 (rd yc_ 4)) := hS_
          refine norm_ (a' := ?_) ?_ ?_
          rotate_left
          ·simp only [putAll, Act.put, List.setIfInBounds_toArray, List.set_cons_zero, List.set_cons_succ]
           rfl
          refine one_ (i := 28) (N := some 7) #[Y, Y, Y, Y, Y, Y, Y, Y, Y, Y, Y, Y, Y, Y, Y, Y, Y, Y, Y, Y, Y, Y, Y, Y, Y, Y, Y, Y, Y, Z] rfl rfl (one_of HT_.out (by kernel_rfl)) (by decide) (fun K hK => ?_)
          refine box_step ?hg (N := 7) ?hd (cs := #[.int .i64 0, .int .i64 0, .int .i64 0, .bool false, .int .i64 0, .bool false, .int .i64 0, .int .i64 0]) (t := 48) ?hr ?_; (case hd => rfl); (case hg => rfl); (case hr => exact yc2)
          intro gb59 hg w23 hbox hb
          have n0_ := Qz.mk (Kd.Qy (Kd.Qap (zr HO_4) gb59 (Nat.le_of_eq hg.symm)) hb)
          have n1_ := Qz.mk (Qq zb hb)
          have n2_ := Qz.mk (hbox)
          have n3_ := Qz.mk ((zh hg : w.heap.size ≤ gb59))
          have n4_ := Qz.mk ((zh hg : w.heap.size ≤ gb59))
          clear HO_4
          clear HB
          have HO_4 := n0_
          have HB := n1_
          have BK59 := n2_
          have GW59 := n3_
          have GE59 := n4_
          clear n0_ n1_ n2_ n3_ n4_
          clear hb hbox hg
          refine hK.out _ _ ⟨((HB.out.cell (World.block_lt_of_cell? w _ hw61_0)).trans hw61_0), ((HB.out.cell (World.block_lt_of_cell? w _ hw67_0)).trans hw67_0), ((HB.out.cell (World.block_lt_of_cell? w _ hw68_0)).trans hw68_0), ((HB.out.cell (World.block_lt_of_cell? w _ hw69_0)).trans hw69_0)⟩ (fun hHeld => ?_)
          clear hK K
          refine norm_ (a' := ?_) ?_ ?_
          rotate_left
          ·show Act.put _ (some 7) _ = _
           simp only [Act.put, List.setIfInBounds_toArray, List.set_cons_zero, List.set_cons_succ, Qar, Qas]
           rfl
          exact norm_ zN (hJ5_16_24_26_28 (gb59) _ ⟨hHeld, yc1, zk, GW59.out, GE59.out, zb⟩)
         rintro gb59 w23 ⟨hS_, h0_, h1_, h2_, h3_, h4_⟩
         have n0_ : Qz (Kd.R k48 48 w23 w.heap.size (fun k_ => k_ ≠ gb59) u4 x4_1) := ⟨h0_⟩
         have n1_ : Qz (w23.heap[gb59]? = some (.cells #[.int .i64 0, .int .i64 0, .int .i64 0, .bool false, .int .i64 0, .bool false, .int .i64 0, .int .i64 0] 48 (0, 0))) := ⟨h1_⟩
         have n2_ : Qz (w.heap.size ≤ gb59) := ⟨h2_⟩
         have n3_ : Qz (w.heap.size ≤ gb59) := ⟨h3_⟩
         have n4_ : Qz (Below w.heap.size w w23) := ⟨h4_⟩
         clear HO_4
         clear HB
         clear h0_ h1_ h2_ h3_ h4_
         have HO_4 := n0_
         have BK59 := n1_
         have GW59 := n2_
         have GE59 := n3_
         have HB := n4_
         clear n0_ n1_ n2_ n3_ n4_
         have hHeld : w23.cell? ad61 = some (.int .u8 (rd yc_ 0)) ∧ w23.cell? ⟨ad61.block, ad61.off + 3, none⟩ = some (.int .u8 (rd yc_ 3)) ∧ w23.cell? ⟨ad61.block, ad61.off + 4, none⟩ = some (.int .u8 (rd yc_ 4)) ∧ w23.cell? ⟨ad61.block, ad61.off + 4, none⟩ = some (.int .u8 (rd yc_ 4)) := hS_
         refine norm_ (a' := ?_) ?_ ?_
         rotate_left
         ·simp only [putAll, Act.put, List.setIfInBounds_toArray, List.set_cons_zero, List.set_cons_succ]
          rfl
         refine one_ (i := 29) (N := none) #[Y, Y, Y, Y, Y, Y, Y, Y, Y, Y, Y, Y, Y, Y, Y, Y, Y, Y, Y, Y, Y, Y, Y, Y, Y, Y, Y, Y, Y, Y] rfl rfl (one_of HT_.out (by kernel_rfl)) (by decide) (fun K hK => ?_)
         have hs24 : w23.cell? ⟨gb59, 0, none⟩ = some (.int .i64 0) := (Qh BK59.out 0).trans rfl
         have hfs24 := Qj BK59.out 0
         have hs25 : w23.cell? ⟨gb59, 1, none⟩ = some (.int .i64 0) := (Qh BK59.out 1).trans rfl
         have hfs25 := Qj BK59.out 1
         have hs26 : w23.cell? ⟨gb59, 2, none⟩ = some (.int .i64 0) := (Qh BK59.out 2).trans rfl
         have hfs26 := Qj BK59.out 2
         have hs27 : w23.cell? ⟨gb59, 3, none⟩ = some (.bool false) := (Qh BK59.out 3).trans rfl
         have hfs27 := Qj BK59.out 3
         have hs28 : w23.cell? ⟨gb59, 4, none⟩ = some (.int .i64 0) := (Qh BK59.out 4).trans rfl
         have hfs28 := Qj BK59.out 4
         have hs29 : w23.cell? ⟨gb59, 5, none⟩ = some (.bool false) := (Qh BK59.out 5).trans rfl
         have hfs29 := Qj BK59.out 5
         have hs30 : w23.cell? ⟨gb59, 6, none⟩ = some (.int .i64 0) := (Qh BK59.out 6).trans rfl
         have hfs30 := Qj BK59.out 6
         have hs31 : w23.cell? ⟨gb59, 7, none⟩ = some (.int .i64 0) := (Qh BK59.out 7).trans rfl
         have hfs31 := Qj BK59.out 7
         refine skip_ (w1 := ?_) (by rfl) rfl ?_ ?_
         rotate_left
         ·go_simp
          rfl
         have NE_hw181_0_GW189 := Nat.ne_of_lt (Nat.lt_of_lt_of_le (World.block_lt_of_cell? _ _ hw61_0) GW59.out)
         have NE_hw183_0_GW189 := Nat.ne_of_lt (Nat.lt_of_lt_of_le (World.block_lt_of_cell? _ _ hw67_0) GW59.out)
         have NE_hw184_0_GW189 := Nat.ne_of_lt (Nat.lt_of_lt_of_le (World.block_lt_of_cell? _ _ hw68_0) GW59.out)
         have NE_hw186_0_GW189 := Nat.ne_of_lt (Nat.lt_of_lt_of_le (World.block_lt_of_cell? _ _ hw69_0) GW59.out)
         refine hK.out _ _ ⟨((Qaq (p := ⟨gb59, _, none⟩) (by exact NE_hw181_0_GW189) _).trans (((Qaq (p := ⟨gb59, _, none⟩) (by exact NE_hw181_0_GW189) _).trans (((Qaq (p := ⟨gb59, _, none⟩) (by exact NE_hw181_0_GW189) _).trans (((Qaq (p := ⟨gb59, _, none⟩) (by exact NE_hw181_0_GW189) _).trans (((Qaq (p := ⟨gb59, _, none⟩) (by exact NE_hw181_0_GW189) _).trans (((Qaq (p := ⟨gb59, _, none⟩) (by exact NE_hw181_0_GW189) _).trans (((Qaq (p := ⟨gb59, _, none⟩) (by exact NE_hw181_0_GW189) _).trans (((Qaq (p := ⟨gb59, _, none⟩) (by exact NE_hw181_0_GW189) _).trans (hHeld.1)))))))))))))))), ((Qaq (p := ⟨gb59, _, none⟩) (by exact NE_hw183_0_GW189) _).trans (((Qaq (p := ⟨gb59, _, none⟩) (by exact NE_hw183_0_GW189) _).trans (((Qaq (p := ⟨gb59, _, none⟩) (by exact NE_hw183_0_GW189) _).trans (((Qaq (p := ⟨gb59, _, none⟩) (by exact NE_hw183_0_GW189) _).trans (((Qaq (p := ⟨gb59, _, none⟩) (by exact NE_hw183_0_GW189) _).trans (((Qaq (p := ⟨gb59, _, none⟩) (by exact NE_hw183_0_GW189) _).trans (((Qaq (p := ⟨gb59, _, none⟩) (by exact NE_hw183_0_GW189) _).trans (((Qaq (p := ⟨gb59, _, none⟩) (by exact NE_hw183_0_GW189) _).trans (hHeld.2.1)))))))))))))))), ((Qaq (p := ⟨gb59, _, none⟩) (by exact NE_hw184_0_GW189) _).trans (((Qaq (p := ⟨gb59, _, none⟩) (by exact NE_hw184_0_GW189) _).trans (((Qaq (p := ⟨gb59, _, none⟩) (by exact NE_hw184_0_GW189) _).trans (((Qaq (p := ⟨gb59, _, none⟩) (by exact NE_hw184_0_GW189) _).trans (((Qaq (p := ⟨gb59, _, none⟩) (by exact NE_hw184_0_GW189) _).trans (((Qaq (p := ⟨gb59, _, none⟩) (by exact NE_hw184_0_GW189) _).trans (((Qaq (p := ⟨gb59, _, none⟩) (by exact NE_hw184_0_GW189) _).trans (((Qaq (p := ⟨gb59, _, none⟩) (by exact NE_hw184_0_GW189) _).trans (hHeld.2.2.1)))))))))))))))), ((Qaq (p := ⟨gb59, _, none⟩) (by exact NE_hw186_0_GW189) _).trans (((Qaq (p := ⟨gb59, _, none⟩) (by exact NE_hw186_0_GW189) _).trans (((Qaq (p := ⟨gb59, _, none⟩) (by exact NE_hw186_0_GW189) _).trans (((Qaq (p := ⟨gb59, _, none⟩) (by exact NE_hw186_0_GW189) _).trans (((Qaq (p := ⟨gb59, _, none⟩) (by exact NE_hw186_0_GW189) _).trans (((Qaq (p := ⟨gb59, _, none⟩) (by exact NE_hw186_0_GW189) _).trans (((Qaq (p := ⟨gb59, _, none⟩) (by exact NE_hw186_0_GW189) _).trans (((Qaq (p := ⟨gb59, _, none⟩) (by exact NE_hw186_0_GW189) _).trans (hHeld.2.2.2))))))))))))))))⟩ (fun hHeld => ?_)
         try clear NE_hw181_0_GW189
         try clear NE_hw183_0_GW189
         try clear NE_hw184_0_GW189
         try clear NE_hw186_0_GW189
         clear hK K
         refine done_ (done_of HT_.out (by kernel_rfl)) ?_
         have H := HX_.out
         clear HX_
         by_cases c16 : t71 = 0
         ·rw [if_pos c16] at H
          have c16b0 : (t71 == 0) = true := beq_iff_eq.mpr c16
          have c16b1 : (t71 != 0) = false := bne_eq_false_iff_eq.mpr c16
          clear c16
          replace H := Option.bind_eq_some_iff.mp H
          obtain ⟨t70, A84, H⟩ := H
          replace H : (if (strOfNums t70).toList = (strOfNums yc_).toList then (if x4_1.length < 2199023255552 then (Zsl3Recs.l0 k1 l0 (x4_1 ++ [(⟨wrap64 (rd yc_ 0), t62, wrap64 (rd yc_ 3), ((Int.tmod (rd yc_ 4) 2) == 1), t63, (((Int.tdiv (rd yc_ 4) 2) % 2) == 1), t65, t66⟩ : S48)]) (wrap64 (x5_1 + 13))) else (none)) else (some (x4_1, x5_1))) = some (r1, r2) := H
          have A17 := Qz.mk A84
          clear A84
          have HX_ := Qz.mk H
          clear H
          try go_wp2
          have n0_ : Qz (Kd.R k48 48 ((((((((w23.setCell ⟨gb59, 0, none⟩ (.int .i64 (wrap64 (rd yc_ 0)))).setCell ⟨gb59, 1, none⟩ (.int .i64 t62)).setCell ⟨gb59, 2, none⟩ (.int .i64 (wrap64 (rd yc_ 3)))).setCell ⟨gb59, 3, none⟩ (.bool ((Int.tmod (rd yc_ 4) 2) == 1))).setCell ⟨gb59, 4, none⟩ (.int .i64 t63)).setCell ⟨gb59, 5, none⟩ (.bool (((Int.tdiv (rd yc_ 4) 2) % 2) == 1))).setCell ⟨gb59, 6, none⟩ (.int .i64 t65)).setCell ⟨gb59, 7, none⟩ (.int .i64 t66)) w.heap.size (fun k_ => k_ ≠ gb59) u4 x4_1) := ⟨by refine zR ?_; exact Kd.Qw (Kd.Qx (p := ⟨gb59, 7, none⟩) (Kd.Qx (p := ⟨gb59, 6, none⟩) (Kd.Qx (p := ⟨gb59, 5, none⟩) (Kd.Qx (p := ⟨gb59, 4, none⟩) (Kd.Qx (p := ⟨gb59, 3, none⟩) (Kd.Qx (p := ⟨gb59, 2, none⟩) (Kd.Qx (p := ⟨gb59, 1, none⟩) (Kd.Qx (p := ⟨gb59, 0, none⟩) (Kd.Qw HO_4.out (fun k_ hk => (⟨hk, hk⟩ : _ ∧ k_ ≠ gb59))) (fun _ hk => hk.2) (.int .i64 (wrap64 (rd yc_ 0)))) (fun _ hk => hk.2) (.int .i64 t62)) (fun _ hk => hk.2) (.int .i64 (wrap64 (rd yc_ 3)))) (fun _ hk => hk.2) (.bool ((Int.tmod (rd yc_ 4) 2) == 1))) (fun _ hk => hk.2) (.int .i64 t63)) (fun _ hk => hk.2) (.bool (((Int.tdiv (rd yc_ 4) 2) % 2) == 1))) (fun _ hk => hk.2) (.int .i64 t65)) (fun _ hk => hk.2) (.int .i64 t66)) (fun _ hk => hk.1)⟩
          have n1_ : Qz (((((((((w23.setCell ⟨gb59, 0, none⟩ (.int .i64 (wrap64 (rd yc_ 0)))).setCell ⟨gb59, 1, none⟩ (.int .i64 t62)).setCell ⟨gb59, 2, none⟩ (.int .i64 (wrap64 (rd yc_ 3)))).setCell ⟨gb59, 3, none⟩ (.bool ((Int.tmod (rd yc_ 4) 2) == 1))).setCell ⟨gb59, 4, none⟩ (.int .i64 t63)).setCell ⟨gb59, 5, none⟩ (.bool (((Int.tdiv (rd yc_ 4) 2) % 2) == 1))).setCell ⟨gb59, 6, none⟩ (.int .i64 t65)).setCell ⟨gb59, 7, none⟩ (.int .i64 t66)).heap[gb59]? = some (.cells #[.int .i64 (wrap64 (rd yc_ 0)), .int .i64 t62, .int .i64 (wrap64 (rd yc_ 3)), .bool ((Int.tmod (rd yc_ 4) 2) == 1), .int .i64 t63, .bool (((Int.tdiv (rd yc_ 4) 2) % 2) == 1), .int .i64 t65, .int .i64 t66] 48 (0, 0))) := ⟨by refine zQ ?_; refine Qk (cs := #[.int .i64 (wrap64 (rd yc_ 0)), .int .i64 t62, .int .i64 (wrap64 (rd yc_ 3)), .bool ((Int.tmod (rd yc_ 4) 2) == 1), .int .i64 t63, .bool (((Int.tdiv (rd yc_ 4) 2) % 2) == 1), .int .i64 t65, .int .i64 0]) ?_ 7 _ rfl; refine zQ ?_; refine Qk (cs := #[.int .i64 (wrap64 (rd yc_ 0)), .int .i64 t62, .int .i64 (wrap64 (rd yc_ 3)), .bool ((Int.tmod (rd yc_ 4) 2) == 1), .int .i64 t63, .bool (((Int.tdiv (rd yc_ 4) 2) % 2) == 1), .int .i64 0, .int .i64 0]) ?_ 6 _ rfl; refine zQ ?_; refine Qk (cs := #[.int .i64 (wrap64 (rd yc_ 0)), .int .i64 t62, .int .i64 (wrap64 (rd yc_ 3)), .bool ((Int.tmod (rd yc_ 4) 2) == 1), .int .i64 t63, .bool false, .int .i64 0, .int .i64 0]) ?_ 5 _ rfl; refine zQ ?_; refine Qk (cs := #[.int .i64 (wrap64 (rd yc_ 0)), .int .i64 t62, .int .i64 (wrap64 (rd yc_ 3)), .bool ((Int.tmod (rd yc_ 4) 2) == 1), .int .i64 0, .bool false, .int .i64 0, .int .i64 0]) ?_ 4 _ rfl; refine zQ ?_; refine Qk (cs := #[.int .i64 (wrap64 (rd yc_ 0)), .int .i64 t62, .int .i64 (wrap64 (rd yc_ 3)), .bool false, .int .i64 0, .bool false, .int .i64 0, .int .i64 0]) ?_ 3 _ rfl; refine zQ ?_; refine Qk (cs := #[.int .i64 (wrap64 (rd yc_ 0)), .int .i64 t62, .int .i64 0, .bool false, .int .i64 0, .bool false, .int .i64 0, .int .i64 0]) ?_ 2 _ rfl; refine zQ ?_; refine Qk (cs := #[.int .i64 (wrap64 (rd yc_ 0)), .int .i64 0, .int .i64 0, .bool false, .int .i64 0, .bool false, .int .i64 0, .int .i64 0]) ?_ 1 _ rfl; refine zQ ?_; refine Qk (cs := #[.int .i64 0, .int .i64 0, .int .i64 0, .bool false, .int .i64 0, .bool false, .int .i64 0, .int .i64 0]) ?_ 0 _ rfl; refine zQ ?_; exact BK59.out⟩
          have n2_ : Qz (Below w.heap.size w ((((((((w23.setCell ⟨gb59, 0, none⟩ (.int .i64 (wrap64 (rd yc_ 0)))).setCell ⟨gb59, 1, none⟩ (.int .i64 t62)).setCell ⟨gb59, 2, none⟩ (.int .i64 (wrap64 (rd yc_ 3)))).setCell ⟨gb59, 3, none⟩ (.bool ((Int.tmod (rd yc_ 4) 2) == 1))).setCell ⟨gb59, 4, none⟩ (.int .i64 t63)).setCell ⟨gb59, 5, none⟩ (.bool (((Int.tdiv (rd yc_ 4) 2) % 2) == 1))).setCell ⟨gb59, 6, none⟩ (.int .i64 t65)).setCell ⟨gb59, 7, none⟩ (.int .i64 t66))) := ⟨zb⟩
          (try clear HO_4)
          (try clear BK59)
          (try clear HB)
          generalize ((((((((w23.setCell ⟨gb59, 0, none⟩ (.int .i64 (wrap64 (rd yc_ 0)))).setCell ⟨gb59, 1, none⟩ (.int .i64 t62)).setCell ⟨gb59, 2, none⟩ (.int .i64 (wrap64 (rd yc_ 3)))).setCell ⟨gb59, 3, none⟩ (.bool ((Int.tmod (rd yc_ 4) 2) == 1))).setCell ⟨gb59, 4, none⟩ (.int .i64 t63)).setCell ⟨gb59, 5, none⟩ (.bool (((Int.tdiv (rd yc_ 4) 2) % 2) == 1))).setCell ⟨gb59, 6, none⟩ (.int .i64 t65)).setCell ⟨gb59, 7, none⟩ (.int .i64 t66)) = w32 at n0_ n1_ n2_ ⊢
          have HO_4 := n0_
          have BK59 := n1_
          have HB := n2_
          clear n0_ n1_ n2_
          have n0_ := Qz.mk (Kd.Qo HO_4.out)
          have n1_ := Qz.mk (Qg BK59.out)
          have n2_ := Qz.mk (Qb HB.out)
          clear HO_4
          clear BK59
          clear HB
          have HO_4 := n0_
          have BK59 := n1_
          have HB := n2_
          clear n0_ n1_ n2_
          refine start_ (n := 11) (S := fun w' => w'.cell? ⟨gb59, 0, none⟩ = some (.int .i64 (wrap64 (rd yc_ 0))) ∧ w'.cell? ⟨gb59, 1, none⟩ = some (.int .i64 t62) ∧ w'.cell? ⟨gb59, 2, none⟩ = some (.int .i64 (wrap64 (rd yc_ 3))) ∧ w'.cell? ⟨gb59, 3, none⟩ = some (.bool ((Int.tmod (rd yc_ 4) 2) == 1)) ∧ w'.cell? ⟨gb59, 4, none⟩ = some (.int .i64 t63) ∧ w'.cell? ⟨gb59, 5, none⟩ = some (.bool (((Int.tdiv (rd yc_ 4) 2) % 2) == 1)) ∧ w'.cell? ⟨gb59, 6, none⟩ = some (.int .i64 t65) ∧ w'.cell? ⟨gb59, 7, none⟩ = some (.int .i64 t66) ∧ (convert 22 9 (.slice (some ad61) yc_.length (c0 - x5_1.toNat))).run Try.prog w' = .ok (.string (strOfNums yc_)) w') (ds := []) #[Z, Z, Z, Z, Z, Z, Z, Z, Z, Z, Z] (by kernel_rfl) rfl rfl ⟨(Qh BK59.out 0).trans rfl, (Qh BK59.out 1).trans rfl, (Qh BK59.out 2).trans rfl, (Qh BK59.out 3).trans rfl, (Qh BK59.out 4).trans rfl, (Qh BK59.out 5).trans rfl, (Qh BK59.out 6).trans rfl, (Qh BK59.out 7).trans rfl, Kd.C_string (P := Try.prog) (A := (some ad61)) (c := (c0 - x5_1.toNat)) Try.underlying22 Try.underlying5 Try.underlying9 (Kd.Qac HR180.out HB.out)⟩ (fun hHeld => ?_); refine with_tabW Zsl3Recs.tab6 Zsl3Recs.bits6 (fun HT_ HW_ => ?_)
          generalize w32.drew = w33 at HO_4 BK59 HB hHeld ⊢
          refine zt 0 47 ?_
          refine one_ (i := 1) (N := some 48) #[Y, Y, Z, Z, Z, Z, Z, Z, Z, Z, Z] rfl rfl (one_of HT_.out (by kernel_rfl)) (by decide) (fun K hK => ?_)
          refine goes_ Try.func52 (by kernel_rfl) rfl #[.agg #[.int .i64 (wrap64 (rd yc_ 0)), .int .i64 t62, .int .i64 (wrap64 (rd yc_ 3)), .bool ((Int.tmod (rd yc_ 4) 2) == 1), .int .i64 t63, .bool (((Int.tdiv (rd yc_ 4) 2) % 2) == 1), .int .i64 t65, .int .i64 t66]] (by rfl) rfl rfl zm ?_
          with_reducible refine (ZsRecFault.calls k1 (wrap64 (rd yc_ 0)) t62 (wrap64 (rd yc_ 3)) ((Int.tmod (rd yc_ 4) 2) == 1) t63 (((Int.tdiv (rd yc_ 4) 2) % 2) == 1) t65 t66 t71 _ A15.out).mono ?_
          rintro e w34 ⟨rfl, hb⟩
          refine ⟨_, rfl, ?_⟩
          have n0_ := Qz.mk (Kd.Qy (zr HO_4) hb)
          have n1_ := Qz.mk (Qi (g := gb59) (o := .cells #[.int .i64 (wrap64 (rd yc_ 0)), .int .i64 t62, .int .i64 (wrap64 (rd yc_ 3)), .bool ((Int.tmod (rd yc_ 4) 2) == 1), .int .i64 t63, .bool (((Int.tdiv (rd yc_ 4) 2) % 2) == 1), .int .i64 t65, .int .i64 t66] 48 (0, 0)) zk hb)
          have n2_ := Qz.mk (Qq zb hb)
          clear HO_4
          clear BK59
          clear HB
          have HO_4 := n0_
          have BK59 := n1_
          have HB := n2_
          clear n0_ n1_ n2_
          (try clear hb)
          (try clear hb2)
          (try clear hk)
          (try clear hi)
          refine hK.out _ _ ⟨(Qh BK59.out 0).trans rfl, (Qh BK59.out 1).trans rfl, (Qh BK59.out 2).trans rfl, (Qh BK59.out 3).trans rfl, (Qh BK59.out 4).trans rfl, (Qh BK59.out 5).trans rfl, (Qh BK59.out 6).trans rfl, (Qh BK59.out 7).trans rfl, Kd.C_string (P := Try.prog) (A := (some ad61)) (c := (c0 - x5_1.toNat)) Try.underlying22 Try.underlying5 Try.underlying9 (Kd.Qac HR180.out HB.out)⟩ (fun hHeld => ?_)
          clear hK K
          refine norm_ (a' := ?_) ?_ ?_
          rotate_left
          ·show Act.put _ (some 48) _ = _
           simp only [Act.put, List.setIfInBounds_toArray, List.set_cons_zero, List.set_cons_succ, Qar, Qas]
           rfl
          refine zp 2 49 ?_; refine zp 3 50 ?_; refine zp 7 54 ?_; refine zt 8 55 ?_; refine zt 4 51 ?_
          refine one_ (i := 5) (N := some 52) #[Y, Y, Y, Y, Y, Y, Z, Y, Y, Z, Z] rfl rfl (one_of HT_.out (by kernel_rfl)) (by decide) (fun K hK => ?_)
          refine goes_ Try.func80 (by kernel_rfl) rfl #[.agg #[.int .i64 (wrap64 (rd yc_ 0)), .int .i64 t62, .int .i64 (wrap64 (rd yc_ 3)), .bool ((Int.tmod (rd yc_ 4) 2) == 1), .int .i64 t63, .bool (((Int.tdiv (rd yc_ 4) 2) % 2) == 1), .int .i64 t65, .int .i64 t66]] (by rfl) rfl rfl zm ?_
          with_reducible refine (Zsl3Pack.calls k1 (wrap64 (rd yc_ 0)) t62 (wrap64 (rd yc_ 3)) ((Int.tmod (rd yc_ 4) 2) == 1) t63 (((Int.tdiv (rd yc_ 4) 2) % 2) == 1) t65 t66 t70 _ A17.out).mono ?_
          rintro e w35 ⟨v88, rfl, ho0, hb⟩
          refine ⟨_, rfl, ?_⟩
          have n0_ := Qz.mk (Kd.Qy (zr HO_4) hb)
          have n1_ := Qz.mk (Kd.Qan ho0 (Qp zb))
          have n2_ := Qz.mk (Qi (g := gb59) (o := .cells #[.int .i64 (wrap64 (rd yc_ 0)), .int .i64 t62, .int .i64 (wrap64 (rd yc_ 3)), .bool ((Int.tmod (rd yc_ 4) 2) == 1), .int .i64 t63, .bool (((Int.tdiv (rd yc_ 4) 2) % 2) == 1), .int .i64 t65, .int .i64 t66] 48 (0, 0)) zk hb)
          have n3_ := Qz.mk (Qq zb hb)
          clear HO_4
          clear BK59
          clear HB
          have HO_4 := n0_
          have HO77 := n1_
          have BK59 := n2_
          have HB := n3_
          clear n0_ n1_ n2_ n3_
          (try clear hb)
          (try clear hb2)
          (try clear hk)
          (try clear hi)
          (try clear ho0)
          have hcv37 := Kd.C_string (P := Try.prog) (A := (some ad61)) (c := (c0 - x5_1.toNat)) Try.underlying22 Try.underlying5 Try.underlying9 (Kd.Qac HR180.out HB.out)
          refine hK.out _ _ ⟨(Qh BK59.out 0).trans rfl, (Qh BK59.out 1).trans rfl, (Qh BK59.out 2).trans rfl, (Qh BK59.out 3).trans rfl, (Qh BK59.out 4).trans rfl, (Qh BK59.out 5).trans rfl, (Qh BK59.out 6).trans rfl, (Qh BK59.out 7).trans rfl, Kd.C_string (P := Try.prog) (A := (some ad61)) (c := (c0 - x5_1.toNat)) Try.underlying22 Try.underlying5 Try.underlying9 (Kd.Qac HR180.out HB.out)⟩ (fun hHeld => ?_)
          clear hK K
          refine norm_ (a' := ?_) ?_ ?_
          rotate_left
          ·show Act.put _ (some 52) _ = _
           simp only [Act.put, List.setIfInBounds_toArray, List.set_cons_zero, List.set_cons_succ, Qar, Qas]
           rfl
          refine one_ (i := 6) (N := some 53) #[Y, Y, Y, Y, Y, Y, Y, Y, Y, Z, Z] rfl rfl (one_of HT_.out (by kernel_rfl)) (by decide) (fun K hK => ?_)
          have hcv36 := own_string (P := Try.prog) Try.underlying22 Try.underlying5 Try.underlying9 (Kd.own_of_R HO77.out)
          refine value_ (w1 := ?_) (v := ?_) (by rfl) rfl ?_ ?_
          rotate_left 2
          ·go_simp
           constructor
           ·rfl
           rfl
          clear hcv36
          refine hK.out _ _ ⟨(Qh BK59.out 0).trans rfl, (Qh BK59.out 1).trans rfl, (Qh BK59.out 2).trans rfl, (Qh BK59.out 3).trans rfl, (Qh BK59.out 4).trans rfl, (Qh BK59.out 5).trans rfl, (Qh BK59.out 6).trans rfl, (Qh BK59.out 7).trans rfl, Kd.C_string (P := Try.prog) (A := (some ad61)) (c := (c0 - x5_1.toNat)) Try.underlying22 Try.underlying5 Try.underlying9 (Kd.Qac HR180.out HB.out)⟩ (fun hHeld => ?_)
          clear hK K
          refine norm_ (a' := ?_) ?_ ?_
          rotate_left
          ·show Act.put _ (some 53) _ = _
           simp only [Act.put, List.setIfInBounds_toArray, List.set_cons_zero, List.set_cons_succ, Qar, Qas]
           rfl
          refine zp 9 56 ?_; refine zp 10 57 ?_
          refine done_ (done_of HT_.out (by kernel_rfl)) ?_
          have H := HX_.out
          clear HX_
          by_cases c18 : (strOfNums t70).toList = (strOfNums yc_).toList
          ·rw [if_pos c18] at H
           have c18b0 : ((strOfNums t70).toList == (strOfNums yc_).toList) = true := beq_iff_eq.mpr c18
           have c18b1 : ((strOfNums t70).toList != (strOfNums yc_).toList) = false := bne_eq_false_iff_eq.mpr c18
           have c18b2 : (!((strOfNums t70).toList == (strOfNums yc_).toList)) = false := by rw [c18b0]; rfl
           (try rw [c18b2])
           clear c18
           by_cases c19 : x4_1.length < 2199023255552
           ·rw [if_pos c19] at H
            have LMc19 := Qz.mk c19
            clear c19
            obtain ⟨y76, hy76⟩ : ∃ y_ : List (S48), y_ = (x4_1 ++ [(⟨wrap64 (rd yc_ 0), t62, wrap64 (rd yc_ 3), ((Int.tmod (rd yc_ 4) 2) == 1), t63, (((Int.tdiv (rd yc_ 4) 2) % 2) == 1), t65, t66⟩ : S48)]) := ⟨_, rfl⟩
            replace H : (Zsl3Recs.l0 k1 l0 y76 (wrap64 (x5_1 + 13))) = some (r1, r2) := by first | (rw [hy76]; with_reducible exact H) | (have H2_ := (Option.bind_some _ _).symm.trans H; rw [hy76]; with_reducible exact H2_) | (have H2_ := (Option.bind_some _ _).symm.trans H; with_reducible exact H2_) | with_reducible exact H | (rw [hy76]; exact H) | exact H
            have Ny76 := Qz.mk hy76
            clear hy76
            have H' := Qz.mk H
            clear H
            obtain ⟨z39_0, z39_1, z39_2, z39_3, z39_4, z39_5, z39_6, z39_7, j39_0, j39_1, j39_2, j39_3, j39_4, j39_5, j39_6, j39_7⟩ := Lv.blks8 BK59.out
            try go_wp2_with (first | ((with_reducible refine gate_builtin (b := .append) (xs := #[.tmp 58, .tmp 60]) rfl ?_); at_builtin; refine Kd.R_append k48 (w0 := w) w.heap.size rfl (.tmp 58) (.tmp 60) 37 48 (.agg #[(.int .i64 0), (.int .i64 0), (.int .i64 0), (.bool false), (.int .i64 0), (.bool false), (.int .i64 0), (.int .i64 0)]) 64 rfl Try.underlying37 info48 rfl (by decide) (by omega) u4 x4_1 (⟨wrap64 (rd yc_ 0), t62, wrap64 (rd yc_ 3), ((Int.tmod (rd yc_ 4) 2) == 1), t63, (((Int.tdiv (rd yc_ 4) 2) % 2) == 1), t65, t66⟩ : S48) [.int .i64 (wrap64 (rd yc_ 0)), .int .i64 t62, .int .i64 (wrap64 (rd yc_ 3)), .bool ((Int.tmod (rd yc_ 4) 2) == 1), .int .i64 t63, .bool (((Int.tdiv (rd yc_ 4) 2) % 2) == 1), .int .i64 t65, .int .i64 t66] (fun k_ => k_ ≠ gb59) (fun _ => False) rfl rfl ?aP (fun _ hk => hk.elim) ?aF ?aO ?aB ?aS ?aL ?_; (case aP => exact k48_mkM _ _ _ (⟨wrap64 (rd yc_ 0), t62, wrap64 (rd yc_ 3), ((Int.tmod (rd yc_ 4) 2) == 1), t63, (((Int.tdiv (rd yc_ 4) 2) % 2) == 1), t65, t66⟩ : S48)); (case aB => exact zb); (case aF => exact (fun k_ hk => Kd.freshB (g := gb59) (o := .cells #[.int .i64 (wrap64 (rd yc_ 0)), .int .i64 t62, .int .i64 (wrap64 (rd yc_ 3)), .bool ((Int.tmod (rd yc_ 4) 2) == 1), .int .i64 t63, .bool (((Int.tdiv (rd yc_ 4) 2) % 2) == 1), .int .i64 t65, .int .i64 t66] 48 (0, 0)) zk k_ hk)); (case aO => exact (zr HO_4)); (case aS => exact (Qp zb)); (case aL => have := LMc19.out; omega); intro v89 w40 ho hb hg hat; rw [← Ny76.out] at ho; have n0_ := Qz.mk (blk_grown (g := gb59) (o := .cells #[.int .i64 (wrap64 (rd yc_ 0)), .int .i64 t62, .int .i64 (wrap64 (rd yc_ 3)), .bool ((Int.tmod (rd yc_ 4) 2) == 1), .int .i64 t63, .bool (((Int.tdiv (rd yc_ 4) 2) % 2) == 1), .int .i64 t65, .int .i64 t66] 48 (0, 0)) zk hg (Kd.R_away HO_4.out (fun _ hk => hk))); have n1_ := Qz.mk (Kd.R_over' (zr HO77) (Kd.R_typed (zr HO_4)) (by decide) hg); have n2_ := Qz.mk (hb); have n3_ := Qz.mk (ho); clear BK59; clear HO77; clear HB; clear HO_4; have BK59 := n0_; have HO77 := n1_; have HB := n2_; have HO86 := n3_; clear n0_ n1_ n2_ n3_; clear ho hb hg hat))
            go_roundg k1
            case measure => have := HK1.out; omega
            case rel => exact ⟨(y76), (wrap64 (x5_1 + 13)), zs, H', ⟨by have := HK1.out; omega⟩, ⟨by refine zR ?_; exact Kd.Qw HO86.out (fun _ hk => trivial)⟩, ⟨zb⟩⟩
           rw [if_neg c19] at H
           exact absurd H (by simp)
          rw [if_neg c18] at H
          have c18b0 : ((strOfNums t70).toList == (strOfNums yc_).toList) = false := beq_eq_false_iff_ne.mpr c18
          have c18b1 : ((strOfNums t70).toList != (strOfNums yc_).toList) = true := bne_iff_ne.mpr c18
          have c18b2 : (!((strOfNums t70).toList == (strOfNums yc_).toList)) = true := by rw [c18b0]; rfl
          (try rw [c18b2])
          simp only [Option.some.injEq, Prod.mk.injEq] at H
          obtain ⟨rfl, rfl⟩ := H
          try go_wp2
          go_ret2
          exact ⟨_, ze, by refine zR ?_; exact Kd.Qw HO_4.out (fun _ hk => trivial), zb⟩
         ·rw [if_neg c16] at H
          have c16b0 : (t71 == 0) = false := beq_eq_false_iff_ne.mpr c16
          have c16b1 : (t71 != 0) = true := bne_iff_ne.mpr c16
          simp only [Option.some.injEq, Prod.mk.injEq] at H
          obtain ⟨rfl, rfl⟩ := H
          try go_wp2
          have n0_ : Qz (Kd.R k48 48 ((((((((w23.setCell ⟨gb59, 0, none⟩ (.int .i64 (wrap64 (rd yc_ 0)))).setCell ⟨gb59, 1, none⟩ (.int .i64 t62)).setCell ⟨gb59, 2, none⟩ (.int .i64 (wrap64 (rd yc_ 3)))).setCell ⟨gb59, 3, none⟩ (.bool ((Int.tmod (rd yc_ 4) 2) == 1))).setCell ⟨gb59, 4, none⟩ (.int .i64 t63)).setCell ⟨gb59, 5, none⟩ (.bool (((Int.tdiv (rd yc_ 4) 2) % 2) == 1))).setCell ⟨gb59, 6, none⟩ (.int .i64 t65)).setCell ⟨gb59, 7, none⟩ (.int .i64 t66)) w.heap.size (fun k_ => k_ ≠ gb59) u4 x4_1) := ⟨by refine zR ?_; exact Kd.Qw (Kd.Qx (p := ⟨gb59, 7, none⟩) (Kd.Qx (p := ⟨gb59, 6, none⟩) (Kd.Qx (p := ⟨gb59, 5, none⟩) (Kd.Qx (p := ⟨gb59, 4, none⟩) (Kd.Qx (p := ⟨gb59, 3, none⟩) (Kd.Qx (p := ⟨gb59, 2, none⟩) (Kd.Qx (p := ⟨gb59, 1, none⟩) (Kd.Qx (p := ⟨gb59, 0, none⟩) (Kd.Qw HO_4.out (fun k_ hk => (⟨hk, hk⟩ : _ ∧ k_ ≠ gb59))) (fun _ hk => hk.2) (.int .i64 (wrap64 (rd yc_ 0)))) (fun _ hk => hk.2) (.int .i64 t62)) (fun _ hk => hk.2) (.int .i64 (wrap64 (rd yc_ 3)))) (fun _ hk => hk.2) (.bool ((Int.tmod (rd yc_ 4) 2) == 1))) (fun _ hk => hk.2) (.int .i64 t63)) (fun _ hk => hk.2) (.bool (((Int.tdiv (rd yc_ 4) 2) % 2) == 1))) (fun _ hk => hk.2) (.int .i64 t65)) (fun _ hk => hk.2) (.int .i64 t66)) (fun _ hk => hk.1)⟩
          have n1_ : Qz (((((((((w23.setCell ⟨gb59, 0, none⟩ (.int .i64 (wrap64 (rd yc_ 0)))).setCell ⟨gb59, 1, none⟩ (.int .i64 t62)).setCell ⟨gb59, 2, none⟩ (.int .i64 (wrap64 (rd yc_ 3)))).setCell ⟨gb59, 3, none⟩ (.bool ((Int.tmod (rd yc_ 4) 2) == 1))).setCell ⟨gb59, 4, none⟩ (.int .i64 t63)).setCell ⟨gb59, 5, none⟩ (.bool (((Int.tdiv (rd yc_ 4) 2) % 2) == 1))).setCell ⟨gb59, 6, none⟩ (.int .i64 t65)).setCell ⟨gb59, 7, none⟩ (.int .i64 t66)).heap[gb59]? = some (.cells #[.int .i64 (wrap64 (rd yc_ 0)), .int .i64 t62, .int .i64 (wrap64 (rd yc_ 3)), .bool ((Int.tmod (rd yc_ 4) 2) == 1), .int .i64 t63, .bool (((Int.tdiv (rd yc_ 4) 2) % 2) == 1), .int .i64 t65, .int .i64 t66] 48 (0, 0))) := ⟨by refine zQ ?_; refine Qk (cs := #[.int .i64 (wrap64 (rd yc_ 0)), .int .i64 t62, .int .i64 (wrap64 (rd yc_ 3)), .bool ((Int.tmod (rd yc_ 4) 2) == 1), .int .i64 t63, .bool (((Int.tdiv (rd yc_ 4) 2) % 2) == 1), .int .i64 t65, .int .i64 0]) ?_ 7 _ rfl; refine zQ ?_; refine Qk (cs := #[.int .i64 (wrap64 (rd yc_ 0)), .int .i64 t62, .int .i64 (wrap64 (rd yc_ 3)), .bool ((Int.tmod (rd yc_ 4) 2) == 1), .int .i64 t63, .bool (((Int.tdiv (rd yc_ 4) 2) % 2) == 1), .int .i64 0, .int .i64 0]) ?_ 6 _ rfl; refine zQ ?_; refine Qk (cs := #[.int .i64 (wrap64 (rd yc_ 0)), .int .i64 t62, .int .i64 (wrap64 (rd yc_ 3)), .bool ((Int.tmod (rd yc_ 4) 2) == 1), .int .i64 t63, .bool false, .int .i64 0, .int .i64 0]) ?_ 5 _ rfl; refine zQ ?_; refine Qk (cs := #[.int .i64 (wrap64 (rd yc_ 0)), .int .i64 t62, .int .i64 (wrap64 (rd yc_ 3)), .bool ((Int.tmod (rd yc_ 4) 2) == 1), .int .i64 0, .bool false, .int .i64 0, .int .i64 0]) ?_ 4 _ rfl; refine zQ ?_; refine Qk (cs := #[.int .i64 (wrap64 (rd yc_ 0)), .int .i64 t62, .int .i64 (wrap64 (rd yc_ 3)), .bool false, .int .i64 0, .bool false, .int .i64 0, .int .i64 0]) ?_ 3 _ rfl; refine zQ ?_; refine Qk (cs := #[.int .i64 (wrap64 (rd yc_ 0)), .int .i64 t62, .int .i64 0, .bool false, .int .i64 0, .bool false, .int .i64 0, .int .i64 0]) ?_ 2 _ rfl; refine zQ ?_; refine Qk (cs := #[.int .i64 (wrap64 (rd yc_ 0)), .int .i64 0, .int .i64 0, .bool false, .int .i64 0, .bool false, .int .i64 0, .int .i64 0]) ?_ 1 _ rfl; refine zQ ?_; refine Qk (cs := #[.int .i64 0, .int .i64 0, .int .i64 0, .bool false, .int .i64 0, .bool false, .int .i64 0, .int .i64 0]) ?_ 0 _ rfl; refine zQ ?_; exact BK59.out⟩
          have n2_ : Qz (Below w.heap.size w ((((((((w23.setCell ⟨gb59, 0, none⟩ (.int .i64 (wrap64 (rd yc_ 0)))).setCell ⟨gb59, 1, none⟩ (.int .i64 t62)).setCell ⟨gb59, 2, none⟩ (.int .i64 (wrap64 (rd yc_ 3)))).setCell ⟨gb59, 3, none⟩ (.bool ((Int.tmod (rd yc_ 4) 2) == 1))).setCell ⟨gb59, 4, none⟩ (.int .i64 t63)).setCell ⟨gb59, 5, none⟩ (.bool (((Int.tdiv (rd yc_ 4) 2) % 2) == 1))).setCell ⟨gb59, 6, none⟩ (.int .i64 t65)).setCell ⟨gb59, 7, none⟩ (.int .i64 t66))) := ⟨zb⟩
          (try clear HO_4)
          (try clear BK59)
          (try clear HB)
          generalize ((((((((w23.setCell ⟨gb59, 0, none⟩ (.int .i64 (wrap64 (rd yc_ 0)))).setCell ⟨gb59, 1, none⟩ (.int .i64 t62)).setCell ⟨gb59, 2, none⟩ (.int .i64 (wrap64 (rd yc_ 3)))).setCell ⟨gb59, 3, none⟩ (.bool ((Int.tmod (rd yc_ 4) 2) == 1))).setCell ⟨gb59, 4, none⟩ (.int .i64 t63)).setCell ⟨gb59, 5, none⟩ (.bool (((Int.tdiv (rd yc_ 4) 2) % 2) == 1))).setCell ⟨gb59, 6, none⟩ (.int .i64 t65)).setCell ⟨gb59, 7, none⟩ (.int .i64 t66)) = w72 at n0_ n1_ n2_ ⊢
          have HO_4 := n0_
          have BK59 := n1_
          have HB := n2_
          clear n0_ n1_ n2_
          have n0_ := Qz.mk (Kd.Qo HO_4.out)
          have n1_ := Qz.mk (Qg BK59.out)
          have n2_ := Qz.mk (Qb HB.out)
          clear HO_4
          clear BK59
          clear HB
          have HO_4 := n0_
          have BK59 := n1_
          have HB := n2_
          clear n0_ n1_ n2_
          refine start_ (n := 11) (S := fun w' => w'.cell? ⟨gb59, 0, none⟩ = some (.int .i64 (wrap64 (rd yc_ 0))) ∧ w'.cell? ⟨gb59, 1, none⟩ = some (.int .i64 t62) ∧ w'.cell? ⟨gb59, 2, none⟩ = some (.int .i64 (wrap64 (rd yc_ 3))) ∧ w'.cell? ⟨gb59, 3, none⟩ = some (.bool ((Int.tmod (rd yc_ 4) 2) == 1)) ∧ w'.cell? ⟨gb59, 4, none⟩ = some (.int .i64 t63) ∧ w'.cell? ⟨gb59, 5, none⟩ = some (.bool (((Int.tdiv (rd yc_ 4) 2) % 2) == 1)) ∧ w'.cell? ⟨gb59, 6, none⟩ = some (.int .i64 t65) ∧ w'.cell? ⟨gb59, 7, none⟩ = some (.int .i64 t66)) (ds := []) #[Z, Z, Z, Z, Z, Z, Z, Z, Z, Z, Z] (by kernel_rfl) rfl rfl ⟨(Qh BK59.out 0).trans rfl, (Qh BK59.out 1).trans rfl, (Qh BK59.out 2).trans rfl, (Qh BK59.out 3).trans rfl, (Qh BK59.out 4).trans rfl, (Qh BK59.out 5).trans rfl, (Qh BK59.out 6).trans rfl, (Qh BK59.out 7).trans rfl⟩ (fun hHeld => ?_); refine with_tabW Zsl3Recs.tab6 Zsl3Recs.bits6 (fun HT_ HW_ => ?_)
          generalize w72.drew = w73 at HO_4 BK59 HB hHeld ⊢
          refine zt 0 47 ?_
          refine one_ (i := 1) (N := some 48) #[Y, Y, Z, Z, Z, Z, Z, Z, Z, Z, Z] rfl rfl (one_of HT_.out (by kernel_rfl)) (by decide) (fun K hK => ?_)
          refine goes_ Try.func52 (by kernel_rfl) rfl #[.agg #[.int .i64 (wrap64 (rd yc_ 0)), .int .i64 t62, .int .i64 (wrap64 (rd yc_ 3)), .bool ((Int.tmod (rd yc_ 4) 2) == 1), .int .i64 t63, .bool (((Int.tdiv (rd yc_ 4) 2) % 2) == 1), .int .i64 t65, .int .i64 t66]] (by rfl) rfl rfl zm ?_
          with_reducible refine (ZsRecFault.calls k1 (wrap64 (rd yc_ 0)) t62 (wrap64 (rd yc_ 3)) ((Int.tmod (rd yc_ 4) 2) == 1) t63 (((Int.tdiv (rd yc_ 4) 2) % 2) == 1) t65 t66 t71 _ A15.out).mono ?_
          rintro e w74 ⟨rfl, hb⟩
          refine ⟨_, rfl, ?_⟩
          have n0_ := Qz.mk (Kd.Qy (zr HO_4) hb)
          have n1_ := Qz.mk (Qi (g := gb59) (o := .cells #[.int .i64 (wrap64 (rd yc_ 0)), .int .i64 t62, .int .i64 (wrap64 (rd yc_ 3)), .bool ((Int.tmod (rd yc_ 4) 2) == 1), .int .i64 t63, .bool (((Int.tdiv (rd yc_ 4) 2) % 2) == 1), .int .i64 t65, .int .i64 t66] 48 (0, 0)) zk hb)
          have n2_ := Qz.mk (Qq zb hb)
          clear HO_4
          clear BK59
          clear HB
          have HO_4 := n0_
          have BK59 := n1_
          have HB := n2_
          clear n0_ n1_ n2_
          (try clear hb)
          (try clear hb2)
          (try clear hk)
          (try clear hi)
          refine hK.out _ _ ⟨(Qh BK59.out 0).trans rfl, (Qh BK59.out 1).trans rfl, (Qh BK59.out 2).trans rfl, (Qh BK59.out 3).trans rfl, (Qh BK59.out 4).trans rfl, (Qh BK59.out 5).trans rfl, (Qh BK59.out 6).trans rfl, (Qh BK59.out 7).trans rfl⟩ (fun hHeld => ?_)
          clear hK K
          refine norm_ (a' := ?_) ?_ ?_
          rotate_left
          ·show Act.put _ (some 48) _ = _
           simp only [Act.put, List.setIfInBounds_toArray, List.set_cons_zero, List.set_cons_succ, Qar, Qas]
           rfl
          refine zp 2 49 ?_; refine zp 3 50 ?_
          refine pure_ (i := 4) (N := some 51) (v := undef) (a' := ?_) #[Y, Y, Y, Y, Y, Z, Z, Z, Z, Z, Z] rfl rfl (any_of HT_.out (by kernel_rfl)) (fun _ _ _ h => h) (Or.inr ⟨by rfl, rfl⟩) ?_ ?_
          rotate_left
          ·simp only [Act.put, List.setIfInBounds_toArray, List.set_cons_zero, List.set_cons_succ, Qar, Qas]
           rfl
          refine pure_ (i := 5) (N := some 52) (v := undef) (a' := ?_) #[Y, Y, Y, Y, Y, Y, Z, Z, Z, Z, Z] rfl rfl (any_of HT_.out (by kernel_rfl)) (fun _ _ _ h => h) (Or.inr ⟨by rfl, rfl⟩) ?_ ?_
          rotate_left
          ·simp only [Act.put, List.setIfInBounds_toArray, List.set_cons_zero, List.set_cons_succ, Qar, Qas]
           rfl
          refine pure_ (i := 6) (N := some 53) (v := undef) (a' := ?_) #[Y, Y, Y, Y, Y, Y, Y, Z, Z, Z, Z] rfl rfl (any_of HT_.out (by kernel_rfl)) (fun _ _ _ h => h) (Or.inr ⟨by rfl, rfl⟩) ?_ ?_
          rotate_left
          ·simp only [Act.put, List.setIfInBounds_toArray, List.set_cons_zero, List.set_cons_succ, Qar, Qas]
           rfl
          refine pure_ (i := 7) (N := some 54) (v := undef) (a' := ?_) #[Y, Y, Y, Y, Y, Y, Y, Y, Z, Z, Z] rfl rfl (any_of HT_.out (by kernel_rfl)) (fun _ _ _ h => h) (Or.inr ⟨by rfl, rfl⟩) ?_ ?_
          rotate_left
          ·simp only [Act.put, List.setIfInBounds_toArray, List.set_cons_zero, List.set_cons_succ, Qar, Qas]
           rfl
          refine pure_ (i := 8) (N := some 55) (v := undef) (a' := ?_) #[Y, Y, Y, Y, Y, Y, Y, Y, Y, Z, Z] rfl rfl (any_of HT_.out (by kernel_rfl)) (fun _ _ _ h => h) (Or.inr ⟨by rfl, rfl⟩) ?_ ?_
          rotate_left
          ·simp only [Act.put, List.setIfInBounds_toArray, List.set_cons_zero, List.set_cons_succ, Qar, Qas]
           rfl
          refine pure_ (i := 9) (N := some 56) (v := undef) (a' := ?_) #[Y, Y, Y, Y, Y, Y, Y, Y, Y, Y, Z] rfl rfl (any_of HT_.out (by kernel_rfl)) (fun _ _ _ h => h) (Or.inr ⟨by rfl, rfl⟩) ?_ ?_
          rotate_left
          ·simp only [Act.put, List.setIfInBounds_toArray, List.set_cons_zero, List.set_cons_succ, Qar, Qas]
           rfl
          refine zp 10 57 ?_
          refine done_ (done_of HT_.out (by kernel_rfl)) ?_
          try go_wp2
          go_ret2
          exact ⟨_, ze, by refine zR ?_; exact Kd.Qw HO_4.out (fun _ hk => trivial), zb⟩
        rw [if_neg c11] at H
        exact absurd H (by simp)
       rw [if_neg c10] at H
       exact absurd H (by simp)
      rw [if_neg c8] at H
      exact absurd H (by simp)
     rw [if_neg c6] at H
     exact absurd H (by simp)
    rw [if_neg c5] at H
    exact absurd H (by simp)
   rw [if_neg c4] at H
   have c4b0 : decide ((wrap64 (x5_1 + 13)) ≤ (l0.length : Int)) = false := decide_eq_false c4
   clear c4
   simp only [Option.some.injEq, Prod.mk.injEq] at H
   obtain ⟨rfl, rfl⟩ := H
   go_wp2
   go_ret2
   exact ⟨_, ze, by refine zR ?_; exact HO_4.out, zb⟩
end Go.Proofs.Ythagppmaofcllaa.P
