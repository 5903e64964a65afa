-- Printed by this session's own program over the kit's print (wip/tools/mp.py). Not trusted: Lean checks it.
import Derived.Test.YthagppmaofcllaaP0
import Derived.Test.YthagppmaofcllaaPCadefgh0
import Derived.Test.YthagppmaofcllaaPCadefgh1
import Derived.Test.YthagppmaofcllaaPCall1
import Derived.Test.YthagppmaofcllaaPDadefgh0
import Derived.Test.YthagppmaofcllaaPDall0
import Derived.Test.YthagppmaofcllaaWRepsOne
import Derived.Test.YthagppmaofcllaaWTab
import Derived.Test.YthagppmaofcllaaLv
namespace Go.Proofs.Ythagppmaofcllaa.P
open Go.RowKit Go.Proofs.YthagppmaofcllaaW.PrintWords Go.Proofs.YthagppmaofcllaaW.PrintLast Go.Proofs.YthagppmaofcllaaW.PrintMore
attribute [local go_sem] max2_int min2_int max_two min_two max_three min_three max_four min_four   -- for this text's walks alone
set_option linter.unusedVariables false
set_option linter.unusedSimpArgs false

-- NEEDS Derived.Test.@N@Lv
/-! ### spec_l3Recs: function 49 -/
def spec_l3Recs.T5 : Bool × List (List Nat × List Nat) := (true, [([], []), ([0], [0]), ([1], [1]), ([2], [2]), ([], []), ([4], [4]), ([], []), ([6], [6]), ([7], [7]), ([8], [8]), ([], []), ([10], [10]), ([11], [11]), ([12], [12]), ([13], [13]), ([], []), ([15, 5], [15]), ([], []), ([17], [17]), ([18], [18]), ([19], [19]), ([20], [20]), ([21], [21]), ([], []), ([23, 16], [23]), ([], []), ([25, 24], [25]), ([3, 5, 9, 14, 16, 22, 24, 26], [3, 5, 9, 14, 16, 22, 24, 26]), ([], []), ([28, 27, 26, 0, 1, 2, 3, 4, 5, 6, 7, 8, 9, 10, 11, 12, 13, 14, 15, 16, 17, 18, 19, 20, 21, 22, 23, 24, 25, 26, 27, 28], [27, 28])])
def spec_l3Recs.B5 : List Nat := [0, 1, 3, 7, 0, 16, 0, 64, 192, 448, 0, 1024, 3072, 7168, 15360, 0, 32816, 0, 131072, 393216, 917504, 1966080, 4063232, 0, 8486960, 0, 58818608, 134217727, 0, 536870911]
theorem spec_l3Recs.tab5 : rtab .any (opsOf Try.f49 5) = spec_l3Recs.T5 := by kernel_rfl
theorem spec_l3Recs.bits5 : waitsOk spec_l3Recs.T5.2 spec_l3Recs.B5 = true := by kernel_rfl
def spec_l3Recs.T6 : Bool × List (List Nat × List Nat) := (true, [([], []), ([0], [0]), ([1], [1]), ([2, 1], [2]), ([3], [3]), ([4, 3, 3], [3, 4]), ([5, 3], [3, 5]), ([3], [3]), ([7, 3], [3, 7]), ([6, 8, 3], [3, 6, 8]), ([3, 9], [3, 9])])
def spec_l3Recs.B6 : List Nat := [0, 1, 3, 7, 15, 31, 63, 15, 143, 511, 1023]
theorem spec_l3Recs.tab6 : rtab .any (opsOf Try.f49 6) = spec_l3Recs.T6 := by kernel_rfl
theorem spec_l3Recs.bits6 : waitsOk spec_l3Recs.T6.2 spec_l3Recs.B6 = true := by kernel_rfl
theorem emod256_ (n : Int) : n % 256 % 2 = n % 2 := by omega
theorem tmod256_ (n : Int) : Int.tmod (n % 256) 2 = n % 256 % 2 := Int.tmod_eq_emod_of_nonneg (by omega)
attribute [local go_sem] IntKind.wrap_u8 tmod256_
set_option maxHeartbeats 40000000 in
set_option maxRecDepth 100000 in
theorem spec_l3Recs.calls (k : Nat) (A0 : Option Addr) (c0 : Nat) (l0 : List Int) (r1 : List (S48)) (r2 : Int) (w : World) (hr0 : Kd.C (Kd.int .u8) w A0 l0.length l0) (hc0 : l0.length ≤ c0) (h : spec_l3Recs.f k l0 = some (r1, r2)) :
 Calls Try.prog 49 #[.slice A0 l0.length c0] w fun e w' => ∃ v0_ : Value, e = .returned (.tuple #[v0_, .int .i64 r2]) ∧ Kd.R k48 48 w' w.heap.size (fun _ => True) v0_ r1 ∧ Below w.heap.size w w' := by
 have hu48 := Try.underlying48
 have HR0 := Aside0.mk hr0
 have HC0 := Aside0.mk hc0
 clear hr0 hc0
 have HB := Aside0.mk (Below.refl w.heap.size w)
 have H : (spec_l3Recs.l0 k l0 (([] : List (S48))) 0) = some (r1, r2) := h
 clear h
 obtain ⟨y177, hy177⟩ : ∃ y_ : List (S48), y_ = (([] : List (S48))) := ⟨_, rfl⟩
 replace H : (spec_l3Recs.l0 k l0 y177 0) = some (r1, r2) := by first | (rw [hy177]; with_reducible exact H) | (have H2_ := (Option.bind_some _ _).symm.trans H; rw [hy177]; with_reducible exact H2_) | (have H2_ := (Option.bind_some _ _).symm.trans H; with_reducible exact H2_) | with_reducible exact H | (rw [hy177]; exact H) | exact H
 have Ny177 := Aside0.mk hy177
 clear hy177
 have H' := Aside0.mk H
 clear H
 go_enter Try.func49, Try.ntmps49
 go_wp2_with (first | ((with_reducible refine gate_dst (N := 8) rfl ?_); refine Kd.R_lit k48 _ 48 ?hg (N := 8) ?hd (xs := ([] : List (S48))) (inner := []) (ok := fun _ => True) (okp := fun _ => True) ?hr ?hp (fun _ hk => hk) trivial (Below.refl _ _) (Nat.le_refl _) (by simp) ?_; (case hd => rfl); (case hg => rfl); (case hr => first | (go_simp; done) | (go_simp; rfl)); (case hp => exact (Reps.none _ _)); intro v178 w2 ho3 hb hg_ hnew_; clear hg_ hnew_; (first | rw [← Ny177.out] at ho3 | (simp only [Int.reduceToNat] at ho3; rw [← Ny177.out] at ho3)); have n0_ := Aside0.mk (Kd.R_lower ho3 (below_size (by repeat (first | (with_reducible first | exact HB.out | apply below_alloc | apply pw_below_drewN | apply below_drew1) | exact HB.out)))); have n1_ := Aside0.mk (below_step (by repeat (first | (with_reducible first | exact HB.out | apply below_alloc | apply pw_below_drewN | apply below_drew1) | exact HB.out)) hb); clear HB; have HO179 := n0_; have HB := n1_; clear n0_ n1_; clear hb ho3))
 go_loopg [4, 5] k (fun kq v4 v5 w' => ∃ (x4_1 : List (S48)) (x5_1 : Int), v5 = .int .i64 x5_1 ∧ Aside0 (spec_l3Recs.l0 kq l0 x4_1 x5_1 = some (r1, r2)) ∧ Aside0 (kq ≤ k) ∧ Aside0 (Kd.R k48 48 w' w.heap.size (fun _ => True) v4 x4_1) ∧ Aside0 (Below w.heap.size w w'))
 case atStart => exact ⟨(y177), (0), (by first | rfl | (simp; done) | (simp [*]; done)), H', ⟨Nat.le_refl _⟩, ⟨by (with_reducible repeat (first | apply Kd.R_alloc | apply Kd.R_drewN | apply Kd.R_drew)); exact HO179.out⟩, ⟨by repeat (first | (with_reducible first | exact HB.out | apply below_alloc | apply pw_below_drewN | apply below_drew1) | exact HB.out)⟩⟩
 case round =>
  clear H'
  try clear p2
  obtain ⟨x4_1, x5_1, rfl, HA, HK1, HO_4, HB⟩ := hrel
  cases gk with
  | zero => exact absurd HA.out (by simp [spec_l3Recs.l0])
  | succ k1 =>
   have H := HA.out
   clear HA
   simp only [spec_l3Recs.l0] at H
   by_cases c4 : (wrap64 (x5_1 + 13)) ≤ (l0.length : Int)
   ·rw [if_pos c4] at H
    have c4b0 : decide ((wrap64 (x5_1 + 13)) ≤ (l0.length : Int)) = true := decide_eq_true c4
    clear c4
    by_cases c5 : 0 ≤ x5_1
    ·rw [if_pos c5] at H
     have c5b0 := eq_true c5
     have c5b1 : decide (0 ≤ x5_1) = true := decide_eq_true c5
     clear c5
     by_cases c6 : x5_1 ≤ (wrap64 (x5_1 + 13))
     ·rw [if_pos c6] at H
      have c6b0 := eq_true c6
      have c6b1 : decide (x5_1 ≤ (wrap64 (x5_1 + 13))) = true := decide_eq_true c6
      have c7b0 := eq_true (of_decide_eq_true (by first | (with_reducible assumption) | assumption) : (wrap64 (x5_1 + 13)) ≤ (l0.length : Int))
      obtain ⟨yc_, hyc_⟩ : ∃ y_ : List Int, y_ = ((l0.take ((wrap64 (x5_1 + 13)) : Int).toNat).drop (x5_1 : Int).toNat) := ⟨_, rfl⟩
      rw [← hyc_] at H
      simp only [emod256_] at H
      have Nyc_ := Aside0.mk hyc_
      clear hyc_
      by_cases c8 : 0 < (yc_.length : Int)
      ·rw [if_pos c8] at H
       have c8b0 : decide (0 < (yc_.length : Int)) = true := decide_eq_true c8
       have c8b1 : decide (0 < yc_.length) = true := decide_eq_true (by omega)
       clear c8
       replace H := Option.bind_eq_some_iff.mp H
       obtain ⟨t182, A90, H⟩ := H
       replace H : (if 3 < (yc_.length : Int) then (if 4 < (yc_.length : Int) then ((spec_l1Take.f k1 yc_ 5 2).bind fun t185 => ((spec_l1Take.f k1 yc_ 7 2).bind fun t187 => ((spec_l1Take.f k1 yc_ 9 2).bind fun t188 => ((spec_RecFault.f k1 (wrap64 (rd yc_ 0)) t182 (wrap64 (rd yc_ 3)) ((Int.tmod (rd yc_ 4) 2) == 1) t185 (((Int.tdiv (rd yc_ 4) 2) % 2) == 1) t187 t188).bind fun t190 => (if t190 = 0 then ((spec_l3Pack.f k1 (wrap64 (rd yc_ 0)) t182 (wrap64 (rd yc_ 3)) ((Int.tmod (rd yc_ 4) 2) == 1) t185 (((Int.tdiv (rd yc_ 4) 2) % 2) == 1) t187 t188).bind fun t191 => (if (strOfNums t191).toList = (strOfNums yc_).toList then (if x4_1.length < 2199023255552 then (spec_l3Recs.l0 k1 l0 (x4_1 ++ [(⟨wrap64 (rd yc_ 0), t182, wrap64 (rd yc_ 3), ((Int.tmod (rd yc_ 4) 2) == 1), t185, (((Int.tdiv (rd yc_ 4) 2) % 2) == 1), t187, t188⟩ : S48)]) (wrap64 (x5_1 + 13))) else (none)) else (some (x4_1, x5_1)))) else (some (x4_1, x5_1))))))) else (none)) else (none)) = some (r1, r2) := H
       have A9 := Aside0.mk A90
       clear A90
       by_cases c10 : 3 < (yc_.length : Int)
       ·rw [if_pos c10] at H
        have c10b0 : decide (3 < (yc_.length : Int)) = true := decide_eq_true c10
        have c10b1 : decide (3 < yc_.length) = true := decide_eq_true (by omega)
        clear c10
        by_cases c11 : 4 < (yc_.length : Int)
        ·rw [if_pos c11] at H
         have c11b0 : decide (4 < (yc_.length : Int)) = true := decide_eq_true c11
         have c11b1 : decide (4 < yc_.length) = true := decide_eq_true (by omega)
         clear c11
         replace H := Option.bind_eq_some_iff.mp H
         obtain ⟨t185, A120, H⟩ := H
         replace H : ((spec_l1Take.f k1 yc_ 7 2).bind fun t187 => ((spec_l1Take.f k1 yc_ 9 2).bind fun t188 => ((spec_RecFault.f k1 (wrap64 (rd yc_ 0)) t182 (wrap64 (rd yc_ 3)) ((Int.tmod (rd yc_ 4) 2) == 1) t185 (((Int.tdiv (rd yc_ 4) 2) % 2) == 1) t187 t188).bind fun t190 => (if t190 = 0 then ((spec_l3Pack.f k1 (wrap64 (rd yc_ 0)) t182 (wrap64 (rd yc_ 3)) ((Int.tmod (rd yc_ 4) 2) == 1) t185 (((Int.tdiv (rd yc_ 4) 2) % 2) == 1) t187 t188).bind fun t191 => (if (strOfNums t191).toList = (strOfNums yc_).toList then (if x4_1.length < 2199023255552 then (spec_l3Recs.l0 k1 l0 (x4_1 ++ [(⟨wrap64 (rd yc_ 0), t182, wrap64 (rd yc_ 3), ((Int.tmod (rd yc_ 4) 2) == 1), t185, (((Int.tdiv (rd yc_ 4) 2) % 2) == 1), t187, t188⟩ : S48)]) (wrap64 (x5_1 + 13))) else (none)) else (some (x4_1, x5_1)))) else (some (x4_1, x5_1)))))) = some (r1, r2) := H
         have A12 := Aside0.mk A120
         clear A120
         replace H := Option.bind_eq_some_iff.mp H
         obtain ⟨t187, A130, H⟩ := H
         replace H : ((spec_l1Take.f k1 yc_ 9 2).bind fun t188 => ((spec_RecFault.f k1 (wrap64 (rd yc_ 0)) t182 (wrap64 (rd yc_ 3)) ((Int.tmod (rd yc_ 4) 2) == 1) t185 (((Int.tdiv (rd yc_ 4) 2) % 2) == 1) t187 t188).bind fun t190 => (if t190 = 0 then ((spec_l3Pack.f k1 (wrap64 (rd yc_ 0)) t182 (wrap64 (rd yc_ 3)) ((Int.tmod (rd yc_ 4) 2) == 1) t185 (((Int.tdiv (rd yc_ 4) 2) % 2) == 1) t187 t188).bind fun t191 => (if (strOfNums t191).toList = (strOfNums yc_).toList then (if x4_1.length < 2199023255552 then (spec_l3Recs.l0 k1 l0 (x4_1 ++ [(⟨wrap64 (rd yc_ 0), t182, wrap64 (rd yc_ 3), ((Int.tmod (rd yc_ 4) 2) == 1), t185, (((Int.tdiv (rd yc_ 4) 2) % 2) == 1), t187, t188⟩ : S48)]) (wrap64 (x5_1 + 13))) else (none)) else (some (x4_1, x5_1)))) else (some (x4_1, x5_1))))) = some (r1, r2) := H
         have A13 := Aside0.mk A130
         clear A130
         replace H := Option.bind_eq_some_iff.mp H
         obtain ⟨t188, A140, H⟩ := H
         replace H : ((spec_RecFault.f k1 (wrap64 (rd yc_ 0)) t182 (wrap64 (rd yc_ 3)) ((Int.tmod (rd yc_ 4) 2) == 1) t185 (((Int.tdiv (rd yc_ 4) 2) % 2) == 1) t187 t188).bind fun t190 => (if t190 = 0 then ((spec_l3Pack.f k1 (wrap64 (rd yc_ 0)) t182 (wrap64 (rd yc_ 3)) ((Int.tmod (rd yc_ 4) 2) == 1) t185 (((Int.tdiv (rd yc_ 4) 2) % 2) == 1) t187 t188).bind fun t191 => (if (strOfNums t191).toList = (strOfNums yc_).toList then (if x4_1.length < 2199023255552 then (spec_l3Recs.l0 k1 l0 (x4_1 ++ [(⟨wrap64 (rd yc_ 0), t182, wrap64 (rd yc_ 3), ((Int.tmod (rd yc_ 4) 2) == 1), t185, (((Int.tdiv (rd yc_ 4) 2) % 2) == 1), t187, t188⟩ : S48)]) (wrap64 (x5_1 + 13))) else (none)) else (some (x4_1, x5_1)))) else (some (x4_1, x5_1)))) = some (r1, r2) := H
         have A14 := Aside0.mk A140
         clear A140
         replace H := Option.bind_eq_some_iff.mp H
         obtain ⟨t190, A150, H⟩ := H
         replace H : (if t190 = 0 then ((spec_l3Pack.f k1 (wrap64 (rd yc_ 0)) t182 (wrap64 (rd yc_ 3)) ((Int.tmod (rd yc_ 4) 2) == 1) t185 (((Int.tdiv (rd yc_ 4) 2) % 2) == 1) t187 t188).bind fun t191 => (if (strOfNums t191).toList = (strOfNums yc_).toList then (if x4_1.length < 2199023255552 then (spec_l3Recs.l0 k1 l0 (x4_1 ++ [(⟨wrap64 (rd yc_ 0), t182, wrap64 (rd yc_ 3), ((Int.tmod (rd yc_ 4) 2) == 1), t185, (((Int.tdiv (rd yc_ 4) 2) % 2) == 1), t187, t188⟩ : S48)]) (wrap64 (x5_1 + 13))) else (none)) else (some (x4_1, x5_1)))) else (some (x4_1, x5_1))) = some (r1, r2) := H
         have A15 := Aside0.mk A150
         clear A150
         have HX_ := Aside0.mk H
         clear H
         obtain ⟨i020, hi020, _, hsz20, _⟩ := info_parts info5
         obtain ⟨A20, hcut20, hA20, hC20⟩ := print_mid_of (P := Try.prog) (Value.int .u8) 0 22 5 .i64 .i64 Try.underlying22 hi020 hsz20 A0 c0 l0 x5_1 (wrap64 (x5_1 + 13)) (of_decide_eq_true (by first | (with_reducible assumption) | assumption)) (by first | omega | exact of_decide_eq_true (by first | (with_reducible assumption) | assumption)) (of_decide_eq_true (by first | (with_reducible assumption) | assumption)) HC0.out
         rw [← Nyc_.out] at hcut20 hA20 hC20
         have HR180 := Aside0.mk (Kd.C_of_reads (h1 := fun _ => rfl) (hA20 _ (Kd.reads_of_C HR0.out)))
         have HC180 := Aside0.mk hC20
         clear hA20 hC20 hi020 hsz20
         try go_wp2
         have n0_ := Aside0.mk (Kd.R_drew HO_4.out)
         have n1_ := Aside0.mk (below_drew1 HB.out)
         clear HO_4
         clear HB
         have HO_4 := n0_
         have HB := n1_
         clear n0_ n1_
         have p181 : 0 ≤ (0 : Int) := (by omega)
         have q181 : 0 < (yc_.length : Int) := of_decide_eq_true (by first | (with_reducible assumption) | assumption)
         obtain ⟨ad181, e181, hx181_0⟩ := Kd.at_int HR180.out 0 p181 q181
         have hw181_0 := hx181_0
         (try rw [show ((0 : Int)).toNat = 0 from rfl] at hw181_0)
         (try rw [show 0 * 1 = 0 from rfl] at hw181_0)
         (try rw [Addr.add_zero'] at hw181_0)
         cases e181
         have qi181 : (0 < yc_.length) = True := eq_true (by omega)
         (try rw [show ((0 : Int)).toNat = 0 from rfl] at hx181_0)
         (try rw [Addr.add_zero'] at hx181_0)
         replace hx181_0 := (HB.out.cell (World.block_lt_of_cell? w _ hx181_0)).trans hx181_0
         replace p181 := eq_true p181
         replace q181 := eq_true q181
         have p183 : 0 ≤ (3 : Int) := (by omega)
         have q183 : 3 < (yc_.length : Int) := of_decide_eq_true (by first | (with_reducible assumption) | assumption)
         obtain ⟨ad183, e183, hx183_0⟩ := Kd.at_int HR180.out 3 p183 q183
         have hw183_0 := hx183_0
         (try rw [show ((3 : Int)).toNat = 3 from rfl] at hw183_0)
         (try rw [show 3 * 1 = 3 from rfl] at hw183_0)
         (try simp only [Nat.reduceMul, Nat.reduceEqDiff, Go.Addr.add, ↓reduceIte] at hw183_0)
         obtain rfl : ad181 = ad183 := (by injection e183)
         (try simp only [show (3 : Int).toNat = 3 from rfl, Nat.reduceMul, Nat.reduceEqDiff, Go.Addr.add, ↓reduceIte] at hx183_0)
         have qi183 : (3 < yc_.length) = True := eq_true (by omega)
         (try rw [show ((3 : Int)).toNat = 3 from rfl] at hx183_0)
         replace hx183_0 := (HB.out.cell (World.block_lt_of_cell? w _ hx183_0)).trans hx183_0
         replace p183 := eq_true p183
         replace q183 := eq_true q183
         have p184 : 0 ≤ (4 : Int) := (by omega)
         have q184 : 4 < (yc_.length : Int) := of_decide_eq_true (by first | (with_reducible assumption) | assumption)
         obtain ⟨ad184, e184, hx184_0⟩ := Kd.at_int HR180.out 4 p184 q184
         have hw184_0 := hx184_0
         (try rw [show ((4 : Int)).toNat = 4 from rfl] at hw184_0)
         (try rw [show 4 * 1 = 4 from rfl] at hw184_0)
         (try simp only [Nat.reduceMul, Nat.reduceEqDiff, Go.Addr.add, ↓reduceIte] at hw184_0)
         obtain rfl : ad181 = ad184 := (by injection e184)
         (try simp only [show (4 : Int).toNat = 4 from rfl, Nat.reduceMul, Nat.reduceEqDiff, Go.Addr.add, ↓reduceIte] at hx184_0)
         have qi184 : (4 < yc_.length) = True := eq_true (by omega)
         (try rw [show ((4 : Int)).toNat = 4 from rfl] at hx184_0)
         replace hx184_0 := (HB.out.cell (World.block_lt_of_cell? w _ hx184_0)).trans hx184_0
         replace p184 := eq_true p184
         replace q184 := eq_true q184
         have p186 : 0 ≤ (4 : Int) := (by omega)
         have q186 : 4 < (yc_.length : Int) := of_decide_eq_true (by first | (with_reducible assumption) | assumption)
         obtain ⟨ad186, e186, hx186_0⟩ := Kd.at_int HR180.out 4 p186 q186
         have hw186_0 := hx186_0
         (try rw [show ((4 : Int)).toNat = 4 from rfl] at hw186_0)
         (try rw [show 4 * 1 = 4 from rfl] at hw186_0)
         (try simp only [Nat.reduceMul, Nat.reduceEqDiff, Go.Addr.add, ↓reduceIte] at hw186_0)
         obtain rfl : ad181 = ad186 := (by injection e186)
         (try simp only [show (4 : Int).toNat = 4 from rfl, Nat.reduceMul, Nat.reduceEqDiff, Go.Addr.add, ↓reduceIte] at hx186_0)
         have qi186 : (4 < yc_.length) = True := eq_true (by omega)
         (try rw [show ((4 : Int)).toNat = 4 from rfl] at hx186_0)
         replace hx186_0 := (HB.out.cell (World.block_lt_of_cell? w _ hx186_0)).trans hx186_0
         replace p186 := eq_true p186
         replace q186 := eq_true q186
         refine start_ (n := 30) (S := fun w' => w'.cell? ad181 = some (.int .u8 (rd yc_ 0)) ∧ w'.cell? ⟨ad181.block, ad181.off + 3, none⟩ = some (.int .u8 (rd yc_ 3)) ∧ w'.cell? ⟨ad181.block, ad181.off + 4, none⟩ = some (.int .u8 (rd yc_ 4)) ∧ w'.cell? ⟨ad181.block, ad181.off + 4, none⟩ = some (.int .u8 (rd yc_ 4))) (ds := []) #[false, false, false, false, false, false, false, false, false, false, false, false, false, false, false, false, false, false, false, false, false, false, false, false, false, false, false, false, false, false] (by kernel_rfl) rfl rfl ⟨((HB.out.cell (World.block_lt_of_cell? w _ hw181_0)).trans hw181_0), ((HB.out.cell (World.block_lt_of_cell? w _ hw183_0)).trans hw183_0), ((HB.out.cell (World.block_lt_of_cell? w _ hw184_0)).trans hw184_0), ((HB.out.cell (World.block_lt_of_cell? w _ hw186_0)).trans hw186_0)⟩ (fun hHeld => ?_); refine with_tabW spec_l3Recs.tab5 spec_l3Recs.bits5 (fun HT_ HW_ => ?_)
         generalize wr.drew = w21 at HO_4 HB hx181_0 hx183_0 hx184_0 hx186_0 hHeld ⊢
         refine pure_ (i := 0) (N := some 19) (v := ?_) (a' := ?_) #[true, false, false, false, false, false, false, false, false, false, false, false, false, false, false, false, false, false, false, false, false, false, false, false, false, false, false, false, false, false] rfl rfl (any_of HT_.out (by kernel_rfl)) (fun _ _ _ h => h) (Or.inl ⟨by rfl, ?_⟩) ?_ ?_
         rotate_left
         ·intro w'
          go_simp
          with_reducible rfl
         rotate_left
         ·simp only [Act.put, List.setIfInBounds_toArray, List.set_cons_zero, List.set_cons_succ, i64_w, i32_w]
          rfl
         refine pure_ (i := 1) (N := some 20) (v := ?_) (a' := ?_) #[true, true, false, false, false, false, false, false, false, false, false, false, false, false, false, false, false, false, false, false, false, false, false, false, false, false, false, false, false, false] rfl rfl (any_of HT_.out (by kernel_rfl)) (fun _ _ _ h => h) (Or.inl ⟨by rfl, ?_⟩) ?_ ?_
         rotate_left
         ·intro w'
          go_simp
          with_reducible rfl
         rotate_left
         ·simp only [Act.put, List.setIfInBounds_toArray, List.set_cons_zero, List.set_cons_succ, i64_w, i32_w]
          rfl
         refine pure_ (i := 4) (N := some 23) (v := ?_) (a' := ?_) #[true, true, false, false, true, false, false, false, false, false, false, false, false, false, false, false, false, false, false, false, false, false, false, false, false, false, false, false, false, false] rfl rfl (any_of HT_.out (by kernel_rfl)) (fun _ _ _ h => h) (Or.inl ⟨by rfl, ?_⟩) ?_ ?_
         rotate_left
         ·intro w'
          go_simp
          with_reducible rfl
         rotate_left
         ·simp only [Act.put, List.setIfInBounds_toArray, List.set_cons_zero, List.set_cons_succ, i64_w, i32_w]
          rfl
         refine pure_ (i := 6) (N := some 25) (v := ?_) (a' := ?_) #[true, true, false, false, true, false, true, false, false, false, false, false, false, false, false, false, false, false, false, false, false, false, false, false, false, false, false, false, false, false] rfl rfl (any_of HT_.out (by kernel_rfl)) (fun _ _ _ h => h) (Or.inl ⟨by rfl, ?_⟩) ?_ ?_
         rotate_left
         ·intro w'
          go_simp
          with_reducible rfl
         rotate_left
         ·simp only [Act.put, List.setIfInBounds_toArray, List.set_cons_zero, List.set_cons_succ, i64_w, i32_w]
          rfl
         refine pure_ (i := 7) (N := some 26) (v := ?_) (a' := ?_) #[true, true, false, false, true, false, true, true, false, false, false, false, false, false, false, false, false, false, false, false, false, false, false, false, false, false, false, false, false, false] rfl rfl (any_of HT_.out (by kernel_rfl)) (fun _ _ _ h => h) (Or.inl ⟨by rfl, ?_⟩) ?_ ?_
         rotate_left
         ·intro w'
          go_simp
          with_reducible rfl
         rotate_left
         ·simp only [Act.put, List.setIfInBounds_toArray, List.set_cons_zero, List.set_cons_succ, i64_w, i32_w]
          rfl
         refine pure_ (i := 10) (N := some 29) (v := ?_) (a' := ?_) #[true, true, false, false, true, false, true, true, false, false, true, false, false, false, false, false, false, false, false, false, false, false, false, false, false, false, false, false, false, false] rfl rfl (any_of HT_.out (by kernel_rfl)) (fun _ _ _ h => h) (Or.inl ⟨by rfl, ?_⟩) ?_ ?_
         rotate_left
         ·intro w'
          go_simp
          with_reducible rfl
         rotate_left
         ·simp only [Act.put, List.setIfInBounds_toArray, List.set_cons_zero, List.set_cons_succ, i64_w, i32_w]
          rfl
         refine pure_ (i := 11) (N := some 30) (v := ?_) (a' := ?_) #[true, true, false, false, true, false, true, true, false, false, true, true, false, false, false, false, false, false, false, false, false, false, false, false, false, false, false, false, false, false] rfl rfl (any_of HT_.out (by kernel_rfl)) (fun _ _ _ h => h) (Or.inl ⟨by rfl, ?_⟩) ?_ ?_
         rotate_left
         ·intro w'
          go_simp
          with_reducible rfl
         rotate_left
         ·simp only [Act.put, List.setIfInBounds_toArray, List.set_cons_zero, List.set_cons_succ, i64_w, i32_w]
          rfl
         refine pure_ (i := 15) (N := some 34) (v := ?_) (a' := ?_) #[true, true, false, false, true, false, true, true, false, false, true, true, false, false, false, true, false, false, false, false, false, false, false, false, false, false, false, false, false, false] rfl rfl (any_of HT_.out (by kernel_rfl)) (fun _ _ _ h => h) (Or.inl ⟨by rfl, ?_⟩) ?_ ?_
         rotate_left
         ·intro w'
          go_simp
          with_reducible rfl
         rotate_left
         ·simp only [Act.put, List.setIfInBounds_toArray, List.set_cons_zero, List.set_cons_succ, i64_w, i32_w]
          rfl
         refine pure_ (i := 17) (N := some 36) (v := ?_) (a' := ?_) #[true, true, false, false, true, false, true, true, false, false, true, true, false, false, false, true, false, true, false, false, false, false, false, false, false, false, false, false, false, false] rfl rfl (any_of HT_.out (by kernel_rfl)) (fun _ _ _ h => h) (Or.inl ⟨by rfl, ?_⟩) ?_ ?_
         rotate_left
         ·intro w'
          go_simp
          with_reducible rfl
         rotate_left
         ·simp only [Act.put, List.setIfInBounds_toArray, List.set_cons_zero, List.set_cons_succ, i64_w, i32_w]
          rfl
         refine pure_ (i := 18) (N := some 37) (v := ?_) (a' := ?_) #[true, true, false, false, true, false, true, true, false, false, true, true, false, false, false, true, false, true, true, false, false, false, false, false, false, false, false, false, false, false] rfl rfl (any_of HT_.out (by kernel_rfl)) (fun _ _ _ h => h) (Or.inl ⟨by rfl, ?_⟩) ?_ ?_
         rotate_left
         ·intro w'
          go_simp
          with_reducible rfl
         rotate_left
         ·simp only [Act.put, List.setIfInBounds_toArray, List.set_cons_zero, List.set_cons_succ, i64_w, i32_w]
          rfl
         refine pure_ (i := 23) (N := some 42) (v := ?_) (a' := ?_) #[true, true, false, false, true, false, true, true, false, false, true, true, false, false, false, true, false, true, true, false, false, false, false, true, false, false, false, false, false, false] rfl rfl (any_of HT_.out (by kernel_rfl)) (fun _ _ _ h => h) (Or.inl ⟨by rfl, ?_⟩) ?_ ?_
         rotate_left
         ·intro w'
          go_simp
          with_reducible rfl
         rotate_left
         ·simp only [Act.put, List.setIfInBounds_toArray, List.set_cons_zero, List.set_cons_succ, i64_w, i32_w]
          rfl
         refine pure_ (i := 25) (N := some 44) (v := ?_) (a' := ?_) #[true, true, false, false, true, false, true, true, false, false, true, true, false, false, false, true, false, true, true, false, false, false, false, true, false, true, false, false, false, false] rfl rfl (any_of HT_.out (by kernel_rfl)) (fun _ _ _ h => h) (Or.inl ⟨by rfl, ?_⟩) ?_ ?_
         rotate_left
         ·intro w'
          go_simp
          with_reducible rfl
         rotate_left
         ·simp only [Act.put, List.setIfInBounds_toArray, List.set_cons_zero, List.set_cons_succ, i64_w, i32_w]
          rfl
         refine take_ (i := 2) (N := some 21) (v := ?_) (a' := ?_) #[true, true, true, false, true, false, true, true, false, false, true, true, false, false, false, true, false, true, true, false, false, false, false, true, false, true, false, false, false, false] rfl rfl (take_ofW HT_.out HW_.out (by kernel_rfl)) (fun _ _ _ h => h) (Or.inl ⟨by rfl, ?_⟩) hHeld ?_ ?_
         rotate_left
         ·rintro w' ⟨s0, s1, s2, s3⟩
          go_simp
          with_reducible rfl
         rotate_left
         ·simp only [Act.put, List.setIfInBounds_toArray, List.set_cons_zero, List.set_cons_succ, i64_w, i32_w]
          rfl
         refine pure_ (i := 3) (N := some 22) (v := ?_) (a' := ?_) #[true, true, true, true, true, false, true, true, false, false, true, true, false, false, false, true, false, true, true, false, false, false, false, true, false, true, false, false, false, false] rfl rfl (any_of HT_.out (by kernel_rfl)) (fun _ _ _ h => h) (Or.inl ⟨by rfl, ?_⟩) ?_ ?_
         rotate_left
         ·intro w'
          go_simp
          with_reducible rfl
         rotate_left
         ·simp only [Act.put, List.setIfInBounds_toArray, List.set_cons_zero, List.set_cons_succ, i64_w, i32_w]
          rfl
         refine take_ (i := 8) (N := some 27) (v := ?_) (a' := ?_) #[true, true, true, true, true, false, true, true, true, false, true, true, false, false, false, true, false, true, true, false, false, false, false, true, false, true, false, false, false, false] rfl rfl (take_ofW HT_.out HW_.out (by kernel_rfl)) (fun _ _ _ h => h) (Or.inl ⟨by rfl, ?_⟩) hHeld ?_ ?_
         rotate_left
         ·rintro w' ⟨s0, s1, s2, s3⟩
          go_simp
          with_reducible rfl
         rotate_left
         ·simp only [Act.put, List.setIfInBounds_toArray, List.set_cons_zero, List.set_cons_succ, i64_w, i32_w]
          rfl
         refine pure_ (i := 9) (N := some 28) (v := ?_) (a' := ?_) #[true, true, true, true, true, false, true, true, true, true, true, true, false, false, false, true, false, true, true, false, false, false, false, true, false, true, false, false, false, false] rfl rfl (any_of HT_.out (by kernel_rfl)) (fun _ _ _ h => h) (Or.inl ⟨by rfl, ?_⟩) ?_ ?_
         rotate_left
         ·intro w'
          go_simp
          with_reducible rfl
         rotate_left
         ·simp only [Act.put, List.setIfInBounds_toArray, List.set_cons_zero, List.set_cons_succ, i64_w, i32_w]
          rfl
         refine take_ (i := 12) (N := some 31) (v := ?_) (a' := ?_) #[true, true, true, true, true, false, true, true, true, true, true, true, true, false, false, true, false, true, true, false, false, false, false, true, false, true, false, false, false, false] rfl rfl (take_ofW HT_.out HW_.out (by kernel_rfl)) (fun _ _ _ h => h) (Or.inl ⟨by rfl, ?_⟩) hHeld ?_ ?_
         rotate_left
         ·rintro w' ⟨s0, s1, s2, s3⟩
          go_simp
          with_reducible rfl
         rotate_left
         ·simp only [Act.put, List.setIfInBounds_toArray, List.set_cons_zero, List.set_cons_succ, i64_w, i32_w]
          rfl
         refine pure_ (i := 13) (N := some 32) (v := ?_) (a' := ?_) #[true, true, true, true, true, false, true, true, true, true, true, true, true, true, false, true, false, true, true, false, false, false, false, true, false, true, false, false, false, false] rfl rfl (any_of HT_.out (by kernel_rfl)) (fun _ _ _ h => h) (Or.inl ⟨by rfl, ?_⟩) ?_ ?_
         rotate_left
         ·intro w'
          go_simp
          with_reducible rfl
         rotate_left
         ·simp only [Act.put, List.setIfInBounds_toArray, List.set_cons_zero, List.set_cons_succ, i64_w, i32_w]
          rfl
         refine pure_ (i := 14) (N := some 33) (v := ?_) (a' := ?_) #[true, true, true, true, true, false, true, true, true, true, true, true, true, true, true, true, false, true, true, false, false, false, false, true, false, true, false, false, false, false] rfl rfl (any_of HT_.out (by kernel_rfl)) (fun _ _ _ h => h) (Or.inl ⟨by rfl, ?_⟩) ?_ ?_
         rotate_left
         ·intro w'
          go_simp
          with_reducible rfl
         rotate_left
         ·simp only [Act.put, List.setIfInBounds_toArray, List.set_cons_zero, List.set_cons_succ, i64_w, i32_w]
          rfl
         refine take_ (i := 19) (N := some 38) (v := ?_) (a' := ?_) #[true, true, true, true, true, false, true, true, true, true, true, true, true, true, true, true, false, true, true, true, false, false, false, true, false, true, false, false, false, false] rfl rfl (take_ofW HT_.out HW_.out (by kernel_rfl)) (fun _ _ _ h => h) (Or.inl ⟨by rfl, ?_⟩) hHeld ?_ ?_
         rotate_left
         ·rintro w' ⟨s0, s1, s2, s3⟩
          go_simp
          with_reducible rfl
         rotate_left
         ·simp only [Act.put, List.setIfInBounds_toArray, List.set_cons_zero, List.set_cons_succ, i64_w, i32_w]
          rfl
         refine pure_ (i := 20) (N := some 39) (v := ?_) (a' := ?_) #[true, true, true, true, true, false, true, true, true, true, true, true, true, true, true, true, false, true, true, true, true, false, false, true, false, true, false, false, false, false] rfl rfl (any_of HT_.out (by kernel_rfl)) (fun _ _ _ h => h) (Or.inl ⟨by rfl, ?_⟩) ?_ ?_
         rotate_left
         ·intro w'
          go_simp
          with_reducible rfl
         rotate_left
         ·simp only [Act.put, List.setIfInBounds_toArray, List.set_cons_zero, List.set_cons_succ, i64_w, i32_w]
          rfl
         refine pure_ (i := 21) (N := some 40) (v := ?_) (a' := ?_) #[true, true, true, true, true, false, true, true, true, true, true, true, true, true, true, true, false, true, true, true, true, true, false, true, false, true, false, false, false, false] rfl rfl (any_of HT_.out (by kernel_rfl)) (fun _ _ _ h => h) (Or.inl ⟨by rfl, ?_⟩) ?_ ?_
         rotate_left
         ·intro w'
          go_simp
          with_reducible rfl
         rotate_left
         ·simp only [Act.put, List.setIfInBounds_toArray, List.set_cons_zero, List.set_cons_succ, i64_w, i32_w]
          rfl
         refine pure_ (i := 22) (N := some 41) (v := ?_) (a' := ?_) #[true, true, true, true, true, false, true, true, true, true, true, true, true, true, true, true, false, true, true, true, true, true, true, true, false, true, false, false, false, false] rfl rfl (any_of HT_.out (by kernel_rfl)) (fun _ _ _ h => h) (Or.inl ⟨by rfl, ?_⟩) ?_ ?_
         rotate_left
         ·intro w'
          go_simp
          with_reducible rfl
         rotate_left
         ·simp only [Act.put, List.setIfInBounds_toArray, List.set_cons_zero, List.set_cons_succ, i64_w, i32_w]
          rfl
         refine join_ (σ := Nat) 1 #[true, true, true, true, true, true, true, true, true, true, true, true, true, true, true, true, true, true, true, true, true, true, true, true, true, true, true, true, true, false] (fun s_ => [(24, .int .i64 t182), (35, .int .i64 t185), (43, .int .i64 t187), (45, .int .i64 t188), (7, .pointer (some ⟨s_, 0, none⟩)), (46, .agg #[.int .i64 (wrap64 (rd yc_ 0)), .int .i64 t182, .int .i64 (wrap64 (rd yc_ 3)), .bool ((Int.tmod (rd yc_ 4) 2) == 1), .int .i64 t185, .bool (((Int.tdiv (rd yc_ 4) 2) % 2) == 1), .int .i64 t187, .int .i64 t188])]) (fun s_ w' => (w'.cell? ad181 = some (.int .u8 (rd yc_ 0)) ∧ w'.cell? ⟨ad181.block, ad181.off + 3, none⟩ = some (.int .u8 (rd yc_ 3)) ∧ w'.cell? ⟨ad181.block, ad181.off + 4, none⟩ = some (.int .u8 (rd yc_ 4)) ∧ w'.cell? ⟨ad181.block, ad181.off + 4, none⟩ = some (.int .u8 (rd yc_ 4))) ∧ (Kd.R k48 48 w' w.heap.size (fun k_ => k_ ≠ s_) u4 x4_1) ∧ (w'.heap[s_]? = some (.cells #[.int .i64 0, .int .i64 0, .int .i64 0, .bool false, .int .i64 0, .bool false, .int .i64 0, .int .i64 0] 48 (0, 0))) ∧ (w.heap.size ≤ s_) ∧ (w.heap.size ≤ s_) ∧ (Below w.heap.size w w')) ?_ ?_
         rotate_left
         ·intro hJ5_16_24_26_28
          refine join_ (σ := Unit) 2 #[true, true, true, true, true, true, true, true, true, true, true, true, true, true, true, true, true, true, true, true, true, true, true, true, true, true, true, true, false, false] (fun s_ => [(24, .int .i64 t182), (35, .int .i64 t185), (43, .int .i64 t187), (45, .int .i64 t188), (46, .agg #[.int .i64 (wrap64 (rd yc_ 0)), .int .i64 t182, .int .i64 (wrap64 (rd yc_ 3)), .bool ((Int.tmod (rd yc_ 4) 2) == 1), .int .i64 t185, .bool (((Int.tdiv (rd yc_ 4) 2) % 2) == 1), .int .i64 t187, .int .i64 t188])]) (fun s_ w' => (w'.cell? ad181 = some (.int .u8 (rd yc_ 0)) ∧ w'.cell? ⟨ad181.block, ad181.off + 3, none⟩ = some (.int .u8 (rd yc_ 3)) ∧ w'.cell? ⟨ad181.block, ad181.off + 4, none⟩ = some (.int .u8 (rd yc_ 4)) ∧ w'.cell? ⟨ad181.block, ad181.off + 4, none⟩ = some (.int .u8 (rd yc_ 4))) ∧ (Kd.R k48 48 w' w.heap.size (fun _ => True) u4 x4_1) ∧ (Below w.heap.size w w')) ?_ ?_
          rotate_left
          ·intro hJ5_16_24_26
           refine join_ (σ := Nat) 3 #[true, true, true, true, true, true, true, true, true, true, true, true, true, true, true, true, true, true, true, true, true, true, true, true, true, true, false, false, true, false] (fun s_ => [(24, .int .i64 t182), (35, .int .i64 t185), (43, .int .i64 t187), (7, .pointer (some ⟨s_, 0, none⟩))]) (fun s_ w' => (w'.cell? ad181 = some (.int .u8 (rd yc_ 0)) ∧ w'.cell? ⟨ad181.block, ad181.off + 3, none⟩ = some (.int .u8 (rd yc_ 3)) ∧ w'.cell? ⟨ad181.block, ad181.off + 4, none⟩ = some (.int .u8 (rd yc_ 4)) ∧ w'.cell? ⟨ad181.block, ad181.off + 4, none⟩ = some (.int .u8 (rd yc_ 4))) ∧ (Kd.R k48 48 w' w.heap.size (fun k_ => k_ ≠ s_) u4 x4_1) ∧ (w'.heap[s_]? = some (.cells #[.int .i64 0, .int .i64 0, .int .i64 0, .bool false, .int .i64 0, .bool false, .int .i64 0, .int .i64 0] 48 (0, 0))) ∧ (w.heap.size ≤ s_) ∧ (w.heap.size ≤ s_) ∧ (Below w.heap.size w w')) ?_ ?_
           rotate_left
           ·intro hJ5_16_24_28
            refine join_ (σ := Unit) 4 #[true, true, true, true, true, true, true, true, true, true, true, true, true, true, true, true, true, true, true, true, true, true, true, true, true, true, false, false, false, false] (fun s_ => [(24, .int .i64 t182), (35, .int .i64 t185), (43, .int .i64 t187)]) (fun s_ w' => (w'.cell? ad181 = some (.int .u8 (rd yc_ 0)) ∧ w'.cell? ⟨ad181.block, ad181.off + 3, none⟩ = some (.int .u8 (rd yc_ 3)) ∧ w'.cell? ⟨ad181.block, ad181.off + 4, none⟩ = some (.int .u8 (rd yc_ 4)) ∧ w'.cell? ⟨ad181.block, ad181.off + 4, none⟩ = some (.int .u8 (rd yc_ 4))) ∧ (Kd.R k48 48 w' w.heap.size (fun _ => True) u4 x4_1) ∧ (Below w.heap.size w w')) ?_ ?_
            rotate_left
            ·intro hJ5_16_24
             refine join_ (σ := Nat) 4 #[true, true, true, true, true, true, true, true, true, true, true, true, true, true, true, true, true, true, true, true, true, true, true, true, false, true, false, false, true, false] (fun s_ => [(24, .int .i64 t182), (35, .int .i64 t185), (7, .pointer (some ⟨s_, 0, none⟩))]) (fun s_ w' => (w'.cell? ad181 = some (.int .u8 (rd yc_ 0)) ∧ w'.cell? ⟨ad181.block, ad181.off + 3, none⟩ = some (.int .u8 (rd yc_ 3)) ∧ w'.cell? ⟨ad181.block, ad181.off + 4, none⟩ = some (.int .u8 (rd yc_ 4)) ∧ w'.cell? ⟨ad181.block, ad181.off + 4, none⟩ = some (.int .u8 (rd yc_ 4))) ∧ (Kd.R k48 48 w' w.heap.size (fun k_ => k_ ≠ s_) u4 x4_1) ∧ (w'.heap[s_]? = some (.cells #[.int .i64 0, .int .i64 0, .int .i64 0, .bool false, .int .i64 0, .bool false, .int .i64 0, .int .i64 0] 48 (0, 0))) ∧ (w.heap.size ≤ s_) ∧ (w.heap.size ≤ s_) ∧ (Below w.heap.size w w')) ?_ ?_
             rotate_left
             ·intro hJ5_16_28
              refine join_ (σ := Unit) 5 #[true, true, true, true, true, true, true, true, true, true, true, true, true, true, true, true, true, true, true, true, true, true, true, true, false, true, false, false, false, false] (fun s_ => [(24, .int .i64 t182), (35, .int .i64 t185)]) (fun s_ w' => (w'.cell? ad181 = some (.int .u8 (rd yc_ 0)) ∧ w'.cell? ⟨ad181.block, ad181.off + 3, none⟩ = some (.int .u8 (rd yc_ 3)) ∧ w'.cell? ⟨ad181.block, ad181.off + 4, none⟩ = some (.int .u8 (rd yc_ 4)) ∧ w'.cell? ⟨ad181.block, ad181.off + 4, none⟩ = some (.int .u8 (rd yc_ 4))) ∧ (Kd.R k48 48 w' w.heap.size (fun _ => True) u4 x4_1) ∧ (Below w.heap.size w w')) ?_ ?_
              rotate_left
              ·intro hJ5_16
               refine join_ (σ := Nat) 5 #[true, true, true, true, true, true, true, true, true, true, true, true, true, true, true, true, false, true, true, true, true, true, true, true, false, true, false, false, true, false] (fun s_ => [(24, .int .i64 t182), (7, .pointer (some ⟨s_, 0, none⟩))]) (fun s_ w' => (w'.cell? ad181 = some (.int .u8 (rd yc_ 0)) ∧ w'.cell? ⟨ad181.block, ad181.off + 3, none⟩ = some (.int .u8 (rd yc_ 3)) ∧ w'.cell? ⟨ad181.block, ad181.off + 4, none⟩ = some (.int .u8 (rd yc_ 4)) ∧ w'.cell? ⟨ad181.block, ad181.off + 4, none⟩ = some (.int .u8 (rd yc_ 4))) ∧ (Kd.R k48 48 w' w.heap.size (fun k_ => k_ ≠ s_) u4 x4_1) ∧ (w'.heap[s_]? = some (.cells #[.int .i64 0, .int .i64 0, .int .i64 0, .bool false, .int .i64 0, .bool false, .int .i64 0, .int .i64 0] 48 (0, 0))) ∧ (w.heap.size ≤ s_) ∧ (w.heap.size ≤ s_) ∧ (Below w.heap.size w w')) ?_ ?_
               rotate_left
               ·intro hJ5_28
                refine join_ (σ := Unit) 6 #[true, true, true, true, true, true, true, true, true, true, true, true, true, true, true, true, false, true, true, true, true, true, true, true, false, true, false, false, false, false] (fun s_ => [(24, .int .i64 t182)]) (fun s_ w' => (w'.cell? ad181 = some (.int .u8 (rd yc_ 0)) ∧ w'.cell? ⟨ad181.block, ad181.off + 3, none⟩ = some (.int .u8 (rd yc_ 3)) ∧ w'.cell? ⟨ad181.block, ad181.off + 4, none⟩ = some (.int .u8 (rd yc_ 4)) ∧ w'.cell? ⟨ad181.block, ad181.off + 4, none⟩ = some (.int .u8 (rd yc_ 4))) ∧ (Kd.R k48 48 w' w.heap.size (fun _ => True) u4 x4_1) ∧ (Below w.heap.size w w')) ?_ ?_
                rotate_left
                ·intro hJ5
                 refine join_ (σ := Nat) 6 #[true, true, true, true, true, false, true, true, true, true, true, true, true, true, true, true, false, true, true, true, true, true, true, true, false, true, false, false, true, false] (fun s_ => [(7, .pointer (some ⟨s_, 0, none⟩))]) (fun s_ w' => (w'.cell? ad181 = some (.int .u8 (rd yc_ 0)) ∧ w'.cell? ⟨ad181.block, ad181.off + 3, none⟩ = some (.int .u8 (rd yc_ 3)) ∧ w'.cell? ⟨ad181.block, ad181.off + 4, none⟩ = some (.int .u8 (rd yc_ 4)) ∧ w'.cell? ⟨ad181.block, ad181.off + 4, none⟩ = some (.int .u8 (rd yc_ 4))) ∧ (Kd.R k48 48 w' w.heap.size (fun k_ => k_ ≠ s_) u4 x4_1) ∧ (w'.heap[s_]? = some (.cells #[.int .i64 0, .int .i64 0, .int .i64 0, .bool false, .int .i64 0, .bool false, .int .i64 0, .int .i64 0] 48 (0, 0))) ∧ (w.heap.size ≤ s_) ∧ (w.heap.size ≤ s_) ∧ (Below w.heap.size w w')) ?_ ?_
                 rotate_left
                 ·intro hJ28
                  refine two_ (i := 5) (j := 28) (Ni := some 24) (Nj := some 7) #[true, true, true, true, true, true, true, true, true, true, true, true, true, true, true, true, false, true, true, true, true, true, true, true, false, true, false, false, false, false] #[true, true, true, true, true, false, true, true, true, true, true, true, true, true, true, true, false, true, true, true, true, true, true, true, false, true, false, false, true, false] rfl rfl rfl rfl (two_of HT_.out (by kernel_rfl)) (by decide) (by decide) (fun K hK => ?_) (fun K hK => ?_)
                  ·skip
                   refine goes_ Try.func79 (by kernel_rfl) rfl #[.slice (some ad181) yc_.length (c0 - x5_1.toNat), .int .i64 1, .int .i64 2] (by rfl) rfl rfl (by (try simp only [List.map_toArray, List.map_cons, List.map_nil]); first | done | (rw [show yc_.length = ((wrap64 (x5_1 + 13)).toNat - x5_1.toNat) from (by rw [List.length_drop, List.length_take]; have h_ : ((wrap64 (x5_1 + 13)) : Int) ≤ (l0.length : Int) := of_decide_eq_true (by first | (with_reducible assumption) | assumption); omega)] <;> rfl) | rfl | (simp only [List.length_drop, List.length_take]; rfl)) ?_
                   with_reducible refine (spec_l1Take.calls k1 _ _ yc_ 1 2 t182 _ ?side1 ?side2 A9.out).mono ?_
                   (case side1 => repeat (first | exact (Kd.C_below HR180.out HB.out) | (with_reducible refine Kd.C_alloc ?_ _) | (with_reducible refine Kd.C_drewN ?_ _) | (with_reducible refine Kd.C_drew ?_)))
                   (case side2 => exact HC180.out)
                   rintro e w' ⟨rfl, ⟨nd, rfl⟩⟩
                   refine ⟨_, rfl, ?_⟩
                   refine hK.out _ _ ⟨((HB.out.cell (World.block_lt_of_cell? w _ hw181_0)).trans hw181_0), ((HB.out.cell (World.block_lt_of_cell? w _ hw183_0)).trans hw183_0), ((HB.out.cell (World.block_lt_of_cell? w _ hw184_0)).trans hw184_0), ((HB.out.cell (World.block_lt_of_cell? w _ hw186_0)).trans hw186_0)⟩ (fun hHeld => ?_)
                   clear hK K
                   refine norm_ (a' := ?_) ?_ ?_
                   rotate_left
                   ·show Act.put _ (some 24) _ = _
                    simp only [Act.put, List.setIfInBounds_toArray, List.set_cons_zero, List.set_cons_succ, i64_w, i32_w]
                    rfl
                   exact norm_ (by first | (simp only [putAll, Act.put, List.setIfInBounds_toArray, List.set_cons_zero, List.set_cons_succ]; done) | (simp only [putAll, Act.put, List.setIfInBounds_toArray, List.set_cons_zero, List.set_cons_succ]; rfl)) (hJ5 () _ ⟨hHeld, (by (with_reducible repeat (first | apply Kd.R_alloc | apply Kd.R_drewN | apply Kd.R_drew)); exact HO_4.out), (by repeat (first | (with_reducible first | exact HB.out | apply below_alloc | apply pw_below_drewN | apply below_drew1) | exact HB.out))⟩)
                  ·skip
                   refine box_step ?hg (N := 7) ?hd (cs := #[.int .i64 0, .int .i64 0, .int .i64 0, .bool false, .int .i64 0, .bool false, .int .i64 0, .int .i64 0]) (t := 48) ?hr ?_; (case hd => rfl); (case hg => rfl); (case hr => first | (go_simp; done) | (go_simp; rfl))
                   intro gb189 hg w22 hbox hb
                   have n0_ := Aside0.mk (Kd.R_below (Kd.R_elderB (by (with_reducible repeat (first | apply Kd.R_alloc | apply Kd.R_drewN | apply Kd.R_drew)); exact HO_4.out) gb189 (Nat.le_of_eq hg.symm)) hb)
                   have n1_ := Aside0.mk (below_step (by repeat (first | (with_reducible first | exact HB.out | apply below_alloc | apply pw_below_drewN | apply below_drew1) | exact HB.out)) hb)
                   have n2_ := Aside0.mk (hbox)
                   have n3_ := Aside0.mk ((by rw [hg]; exact (below_size (by repeat (first | (with_reducible first | exact HB.out | apply below_alloc | apply pw_below_drewN | apply below_drew1) | exact HB.out))) : w.heap.size ≤ gb189))
                   have n4_ := Aside0.mk ((by rw [hg]; exact (below_size (by repeat (first | (with_reducible first | exact HB.out | apply below_alloc | apply pw_below_drewN | apply below_drew1) | exact HB.out))) : w.heap.size ≤ gb189))
                   clear HO_4
                   clear HB
                   have HO_4 := n0_
                   have HB := n1_
                   have BK189 := n2_
                   have GW189 := n3_
                   have GE189 := n4_
                   clear n0_ n1_ n2_ n3_ n4_
                   clear hb hbox hg
                   refine hK.out _ _ ⟨((HB.out.cell (World.block_lt_of_cell? w _ hw181_0)).trans hw181_0), ((HB.out.cell (World.block_lt_of_cell? w _ hw183_0)).trans hw183_0), ((HB.out.cell (World.block_lt_of_cell? w _ hw184_0)).trans hw184_0), ((HB.out.cell (World.block_lt_of_cell? w _ hw186_0)).trans hw186_0)⟩ (fun hHeld => ?_)
                   clear hK K
                   refine norm_ (a' := ?_) ?_ ?_
                   rotate_left
                   ·show Act.put _ (some 7) _ = _
                    simp only [Act.put, List.setIfInBounds_toArray, List.set_cons_zero, List.set_cons_succ, i64_w, i32_w]
                    rfl
                   exact norm_ (by first | (simp only [putAll, Act.put, List.setIfInBounds_toArray, List.set_cons_zero, List.set_cons_succ]; done) | (simp only [putAll, Act.put, List.setIfInBounds_toArray, List.set_cons_zero, List.set_cons_succ]; rfl)) (hJ28 (gb189) _ ⟨hHeld, (by (with_reducible repeat (first | apply Kd.R_alloc | apply Kd.R_drewN | apply Kd.R_drew)); exact Kd.R_mono HO_4.out (fun _ hk => hk.2)), (by (with_reducible repeat (first | refine blk_drewN ?_ _ | refine blk_drew ?_ | refine blk_alloc ?_ _)); exact BK189.out), GW189.out, GE189.out, (by repeat (first | (with_reducible first | exact HB.out | apply below_alloc | apply pw_below_drewN | apply below_drew1 | refine below_set ?_ GE189.out) | exact HB.out))⟩)
                 ·skip
                  rintro gb189 w23 ⟨hS_, h0_, h1_, h2_, h3_, h4_⟩
                  have n0_ : Aside0 (Kd.R k48 48 w23 w.heap.size (fun k_ => k_ ≠ gb189) u4 x4_1) := ⟨h0_⟩
                  have n1_ : Aside0 (w23.heap[gb189]? = some (.cells #[.int .i64 0, .int .i64 0, .int .i64 0, .bool false, .int .i64 0, .bool false, .int .i64 0, .int .i64 0] 48 (0, 0))) := ⟨h1_⟩
                  have n2_ : Aside0 (w.heap.size ≤ gb189) := ⟨h2_⟩
                  have n3_ : Aside0 (w.heap.size ≤ gb189) := ⟨h3_⟩
                  have n4_ : Aside0 (Below w.heap.size w w23) := ⟨h4_⟩
                  clear HO_4
                  clear HB
                  clear h0_ h1_ h2_ h3_ h4_
                  have HO_4 := n0_
                  have BK189 := n1_
                  have GW189 := n2_
                  have GE189 := n3_
                  have HB := n4_
                  clear n0_ n1_ n2_ n3_ n4_
                  have hHeld : w23.cell? ad181 = some (.int .u8 (rd yc_ 0)) ∧ w23.cell? ⟨ad181.block, ad181.off + 3, none⟩ = some (.int .u8 (rd yc_ 3)) ∧ w23.cell? ⟨ad181.block, ad181.off + 4, none⟩ = some (.int .u8 (rd yc_ 4)) ∧ w23.cell? ⟨ad181.block, ad181.off + 4, none⟩ = some (.int .u8 (rd yc_ 4)) := hS_
                  refine norm_ (a' := ?_) ?_ ?_
                  rotate_left
                  ·simp only [putAll, Act.put, List.setIfInBounds_toArray, List.set_cons_zero, List.set_cons_succ]
                   rfl
                  refine one_ (i := 5) (N := some 24) #[true, true, true, true, true, true, true, true, true, true, true, true, true, true, true, true, false, true, true, true, true, true, true, true, false, true, false, false, true, false] rfl rfl (one_of HT_.out (by kernel_rfl)) (by decide) (fun K hK => ?_)
                  refine goes_ Try.func79 (by kernel_rfl) rfl #[.slice (some ad181) yc_.length (c0 - x5_1.toNat), .int .i64 1, .int .i64 2] (by rfl) rfl rfl (by (try simp only [List.map_toArray, List.map_cons, List.map_nil]); first | done | (rw [show yc_.length = ((wrap64 (x5_1 + 13)).toNat - x5_1.toNat) from (by rw [List.length_drop, List.length_take]; have h_ : ((wrap64 (x5_1 + 13)) : Int) ≤ (l0.length : Int) := of_decide_eq_true (by first | (with_reducible assumption) | assumption); omega)] <;> rfl) | rfl | (simp only [List.length_drop, List.length_take]; rfl)) ?_
                  with_reducible refine (spec_l1Take.calls k1 _ _ yc_ 1 2 t182 _ ?side1 ?side2 A9.out).mono ?_
                  (case side1 => repeat (first | exact (Kd.C_below HR180.out HB.out) | (with_reducible refine Kd.C_alloc ?_ _) | (with_reducible refine Kd.C_drewN ?_ _) | (with_reducible refine Kd.C_drew ?_)))
                  (case side2 => exact HC180.out)
                  rintro e w' ⟨rfl, ⟨nd, rfl⟩⟩
                  refine ⟨_, rfl, ?_⟩
                  refine hK.out _ _ ⟨((HB.out.cell (World.block_lt_of_cell? w _ hw181_0)).trans hw181_0), ((HB.out.cell (World.block_lt_of_cell? w _ hw183_0)).trans hw183_0), ((HB.out.cell (World.block_lt_of_cell? w _ hw184_0)).trans hw184_0), ((HB.out.cell (World.block_lt_of_cell? w _ hw186_0)).trans hw186_0)⟩ (fun hHeld => ?_)
                  clear hK K
                  refine norm_ (a' := ?_) ?_ ?_
                  rotate_left
                  ·show Act.put _ (some 24) _ = _
                   simp only [Act.put, List.setIfInBounds_toArray, List.set_cons_zero, List.set_cons_succ, i64_w, i32_w]
                   rfl
                  exact norm_ (by first | (simp only [putAll, Act.put, List.setIfInBounds_toArray, List.set_cons_zero, List.set_cons_succ]; done) | (simp only [putAll, Act.put, List.setIfInBounds_toArray, List.set_cons_zero, List.set_cons_succ]; rfl)) (hJ5_28 (gb189) _ ⟨hHeld, (by (with_reducible repeat (first | apply Kd.R_alloc | apply Kd.R_drewN | apply Kd.R_drew)); exact HO_4.out), (by (with_reducible repeat (first | refine blk_drewN ?_ _ | refine blk_drew ?_ | refine blk_alloc ?_ _)); exact BK189.out), GW189.out, GE189.out, (by repeat (first | (with_reducible first | exact HB.out | apply below_alloc | apply pw_below_drewN | apply below_drew1 | refine below_set ?_ GE189.out) | exact HB.out))⟩)
                ·skip
                 rintro _ w22 ⟨hS_, h0_, h1_⟩
                 have n0_ : Aside0 (Kd.R k48 48 w22 w.heap.size (fun _ => True) u4 x4_1) := ⟨h0_⟩
                 have n1_ : Aside0 (Below w.heap.size w w22) := ⟨h1_⟩
                 clear HO_4
                 clear HB
                 clear h0_ h1_
                 have HO_4 := n0_
                 have HB := n1_
                 clear n0_ n1_
                 have hHeld : w22.cell? ad181 = some (.int .u8 (rd yc_ 0)) ∧ w22.cell? ⟨ad181.block, ad181.off + 3, none⟩ = some (.int .u8 (rd yc_ 3)) ∧ w22.cell? ⟨ad181.block, ad181.off + 4, none⟩ = some (.int .u8 (rd yc_ 4)) ∧ w22.cell? ⟨ad181.block, ad181.off + 4, none⟩ = some (.int .u8 (rd yc_ 4)) := hS_
                 refine norm_ (a' := ?_) ?_ ?_
                 rotate_left
                 ·simp only [putAll, Act.put, List.setIfInBounds_toArray, List.set_cons_zero, List.set_cons_succ]
                  rfl
                 refine two_ (i := 16) (j := 28) (Ni := some 35) (Nj := some 7) #[true, true, true, true, true, true, true, true, true, true, true, true, true, true, true, true, true, true, true, true, true, true, true, true, false, true, false, false, false, false] #[true, true, true, true, true, true, true, true, true, true, true, true, true, true, true, true, false, true, true, true, true, true, true, true, false, true, false, false, true, false] rfl rfl rfl rfl (two_of HT_.out (by kernel_rfl)) (by decide) (by decide) (fun K hK => ?_) (fun K hK => ?_)
                 ·skip
                  refine goes_ Try.func79 (by kernel_rfl) rfl #[.slice (some ad181) yc_.length (c0 - x5_1.toNat), .int .i64 5, .int .i64 2] (by rfl) rfl rfl (by (try simp only [List.map_toArray, List.map_cons, List.map_nil]); first | done | (rw [show yc_.length = ((wrap64 (x5_1 + 13)).toNat - x5_1.toNat) from (by rw [List.length_drop, List.length_take]; have h_ : ((wrap64 (x5_1 + 13)) : Int) ≤ (l0.length : Int) := of_decide_eq_true (by first | (with_reducible assumption) | assumption); omega)] <;> rfl) | rfl | (simp only [List.length_drop, List.length_take]; rfl)) ?_
                  with_reducible refine (spec_l1Take.calls k1 _ _ yc_ 5 2 t185 _ ?side1 ?side2 A12.out).mono ?_
                  (case side1 => repeat (first | exact (Kd.C_below HR180.out HB.out) | (with_reducible refine Kd.C_alloc ?_ _) | (with_reducible refine Kd.C_drewN ?_ _) | (with_reducible refine Kd.C_drew ?_)))
                  (case side2 => exact HC180.out)
                  rintro e w' ⟨rfl, ⟨nd, rfl⟩⟩
                  refine ⟨_, rfl, ?_⟩
                  refine hK.out _ _ ⟨((HB.out.cell (World.block_lt_of_cell? w _ hw181_0)).trans hw181_0), ((HB.out.cell (World.block_lt_of_cell? w _ hw183_0)).trans hw183_0), ((HB.out.cell (World.block_lt_of_cell? w _ hw184_0)).trans hw184_0), ((HB.out.cell (World.block_lt_of_cell? w _ hw186_0)).trans hw186_0)⟩ (fun hHeld => ?_)
                  clear hK K
                  refine norm_ (a' := ?_) ?_ ?_
                  rotate_left
                  ·show Act.put _ (some 35) _ = _
                   simp only [Act.put, List.setIfInBounds_toArray, List.set_cons_zero, List.set_cons_succ, i64_w, i32_w]
                   rfl
                  exact norm_ (by first | (simp only [putAll, Act.put, List.setIfInBounds_toArray, List.set_cons_zero, List.set_cons_succ]; done) | (simp only [putAll, Act.put, List.setIfInBounds_toArray, List.set_cons_zero, List.set_cons_succ]; rfl)) (hJ5_16 () _ ⟨hHeld, (by (with_reducible repeat (first | apply Kd.R_alloc | apply Kd.R_drewN | apply Kd.R_drew)); exact HO_4.out), (by repeat (first | (with_reducible first | exact HB.out | apply below_alloc | apply pw_below_drewN | apply below_drew1) | exact HB.out))⟩)
                 ·skip
                  refine box_step ?hg (N := 7) ?hd (cs := #[.int .i64 0, .int .i64 0, .int .i64 0, .bool false, .int .i64 0, .bool false, .int .i64 0, .int .i64 0]) (t := 48) ?hr ?_; (case hd => rfl); (case hg => rfl); (case hr => first | (go_simp; done) | (go_simp; rfl))
                  intro gb189 hg w23 hbox hb
                  have n0_ := Aside0.mk (Kd.R_below (Kd.R_elderB (by (with_reducible repeat (first | apply Kd.R_alloc | apply Kd.R_drewN | apply Kd.R_drew)); exact HO_4.out) gb189 (Nat.le_of_eq hg.symm)) hb)
                  have n1_ := Aside0.mk (below_step (by repeat (first | (with_reducible first | exact HB.out | apply below_alloc | apply pw_below_drewN | apply below_drew1) | exact HB.out)) hb)
                  have n2_ := Aside0.mk (hbox)
                  have n3_ := Aside0.mk ((by rw [hg]; exact (below_size (by repeat (first | (with_reducible first | exact HB.out | apply below_alloc | apply pw_below_drewN | apply below_drew1) | exact HB.out))) : w.heap.size ≤ gb189))
                  have n4_ := Aside0.mk ((by rw [hg]; exact (below_size (by repeat (first | (with_reducible first | exact HB.out | apply below_alloc | apply pw_below_drewN | apply below_drew1) | exact HB.out))) : w.heap.size ≤ gb189))
                  clear HO_4
                  clear HB
                  have HO_4 := n0_
                  have HB := n1_
                  have BK189 := n2_
                  have GW189 := n3_
                  have GE189 := n4_
                  clear n0_ n1_ n2_ n3_ n4_
                  clear hb hbox hg
                  refine hK.out _ _ ⟨((HB.out.cell (World.block_lt_of_cell? w _ hw181_0)).trans hw181_0), ((HB.out.cell (World.block_lt_of_cell? w _ hw183_0)).trans hw183_0), ((HB.out.cell (World.block_lt_of_cell? w _ hw184_0)).trans hw184_0), ((HB.out.cell (World.block_lt_of_cell? w _ hw186_0)).trans hw186_0)⟩ (fun hHeld => ?_)
                  clear hK K
                  refine norm_ (a' := ?_) ?_ ?_
                  rotate_left
                  ·show Act.put _ (some 7) _ = _
                   simp only [Act.put, List.setIfInBounds_toArray, List.set_cons_zero, List.set_cons_succ, i64_w, i32_w]
                   rfl
                  exact norm_ (by first | (simp only [putAll, Act.put, List.setIfInBounds_toArray, List.set_cons_zero, List.set_cons_succ]; done) | (simp only [putAll, Act.put, List.setIfInBounds_toArray, List.set_cons_zero, List.set_cons_succ]; rfl)) (hJ5_28 (gb189) _ ⟨hHeld, (by (with_reducible repeat (first | apply Kd.R_alloc | apply Kd.R_drewN | apply Kd.R_drew)); exact Kd.R_mono HO_4.out (fun _ hk => hk.2)), (by (with_reducible repeat (first | refine blk_drewN ?_ _ | refine blk_drew ?_ | refine blk_alloc ?_ _)); exact BK189.out), GW189.out, GE189.out, (by repeat (first | (with_reducible first | exact HB.out | apply below_alloc | apply pw_below_drewN | apply below_drew1 | refine below_set ?_ GE189.out) | exact HB.out))⟩)
               ·skip
                rintro gb189 w23 ⟨hS_, h0_, h1_, h2_, h3_, h4_⟩
                have n0_ : Aside0 (Kd.R k48 48 w23 w.heap.size (fun k_ => k_ ≠ gb189) u4 x4_1) := ⟨h0_⟩
                have n1_ : Aside0 (w23.heap[gb189]? = some (.cells #[.int .i64 0, .int .i64 0, .int .i64 0, .bool false, .int .i64 0, .bool false, .int .i64 0, .int .i64 0] 48 (0, 0))) := ⟨h1_⟩
                have n2_ : Aside0 (w.heap.size ≤ gb189) := ⟨h2_⟩
                have n3_ : Aside0 (w.heap.size ≤ gb189) := ⟨h3_⟩
                have n4_ : Aside0 (Below w.heap.size w w23) := ⟨h4_⟩
                clear HO_4
                clear HB
                clear h0_ h1_ h2_ h3_ h4_
                have HO_4 := n0_
                have BK189 := n1_
                have GW189 := n2_
                have GE189 := n3_
                have HB := n4_
                clear n0_ n1_ n2_ n3_ n4_
                have hHeld : w23.cell? ad181 = some (.int .u8 (rd yc_ 0)) ∧ w23.cell? ⟨ad181.block, ad181.off + 3, none⟩ = some (.int .u8 (rd yc_ 3)) ∧ w23.cell? ⟨ad181.block, ad181.off + 4, none⟩ = some (.int .u8 (rd yc_ 4)) ∧ w23.cell? ⟨ad181.block, ad181.off + 4, none⟩ = some (.int .u8 (rd yc_ 4)) := hS_
                refine norm_ (a' := ?_) ?_ ?_
                rotate_left
                ·simp only [putAll, Act.put, List.setIfInBounds_toArray, List.set_cons_zero, List.set_cons_succ]
                 rfl
                refine one_ (i := 16) (N := some 35) #[true, true, true, true, true, true, true, true, true, true, true, true, true, true, true, true, true, true, true, true, true, true, true, true, false, true, false, false, true, false] rfl rfl (one_of HT_.out (by kernel_rfl)) (by decide) (fun K hK => ?_)
                refine goes_ Try.func79 (by kernel_rfl) rfl #[.slice (some ad181) yc_.length (c0 - x5_1.toNat), .int .i64 5, .int .i64 2] (by rfl) rfl rfl (by (try simp only [List.map_toArray, List.map_cons, List.map_nil]); first | done | (rw [show yc_.length = ((wrap64 (x5_1 + 13)).toNat - x5_1.toNat) from (by rw [List.length_drop, List.length_take]; have h_ : ((wrap64 (x5_1 + 13)) : Int) ≤ (l0.length : Int) := of_decide_eq_true (by first | (with_reducible assumption) | assumption); omega)] <;> rfl) | rfl | (simp only [List.length_drop, List.length_take]; rfl)) ?_
                with_reducible refine (spec_l1Take.calls k1 _ _ yc_ 5 2 t185 _ ?side1 ?side2 A12.out).mono ?_
                (case side1 => repeat (first | exact (Kd.C_below HR180.out HB.out) | (with_reducible refine Kd.C_alloc ?_ _) | (with_reducible refine Kd.C_drewN ?_ _) | (with_reducible refine Kd.C_drew ?_)))
                (case side2 => exact HC180.out)
                rintro e w' ⟨rfl, ⟨nd, rfl⟩⟩
                refine ⟨_, rfl, ?_⟩
                refine hK.out _ _ ⟨((HB.out.cell (World.block_lt_of_cell? w _ hw181_0)).trans hw181_0), ((HB.out.cell (World.block_lt_of_cell? w _ hw183_0)).trans hw183_0), ((HB.out.cell (World.block_lt_of_cell? w _ hw184_0)).trans hw184_0), ((HB.out.cell (World.block_lt_of_cell? w _ hw186_0)).trans hw186_0)⟩ (fun hHeld => ?_)
                clear hK K
                refine norm_ (a' := ?_) ?_ ?_
                rotate_left
                ·show Act.put _ (some 35) _ = _
                 simp only [Act.put, List.setIfInBounds_toArray, List.set_cons_zero, List.set_cons_succ, i64_w, i32_w]
                 rfl
                exact norm_ (by first | (simp only [putAll, Act.put, List.setIfInBounds_toArray, List.set_cons_zero, List.set_cons_succ]; done) | (simp only [putAll, Act.put, List.setIfInBounds_toArray, List.set_cons_zero, List.set_cons_succ]; rfl)) (hJ5_16_28 (gb189) _ ⟨hHeld, (by (with_reducible repeat (first | apply Kd.R_alloc | apply Kd.R_drewN | apply Kd.R_drew)); exact HO_4.out), (by (with_reducible repeat (first | refine blk_drewN ?_ _ | refine blk_drew ?_ | refine blk_alloc ?_ _)); exact BK189.out), GW189.out, GE189.out, (by repeat (first | (with_reducible first | exact HB.out | apply below_alloc | apply pw_below_drewN | apply below_drew1 | refine below_set ?_ GE189.out) | exact HB.out))⟩)
              ·skip
               rintro _ w22 ⟨hS_, h0_, h1_⟩
               have n0_ : Aside0 (Kd.R k48 48 w22 w.heap.size (fun _ => True) u4 x4_1) := ⟨h0_⟩
               have n1_ : Aside0 (Below w.heap.size w w22) := ⟨h1_⟩
               clear HO_4
               clear HB
               clear h0_ h1_
               have HO_4 := n0_
               have HB := n1_
               clear n0_ n1_
               have hHeld : w22.cell? ad181 = some (.int .u8 (rd yc_ 0)) ∧ w22.cell? ⟨ad181.block, ad181.off + 3, none⟩ = some (.int .u8 (rd yc_ 3)) ∧ w22.cell? ⟨ad181.block, ad181.off + 4, none⟩ = some (.int .u8 (rd yc_ 4)) ∧ w22.cell? ⟨ad181.block, ad181.off + 4, none⟩ = some (.int .u8 (rd yc_ 4)) := hS_
               refine norm_ (a' := ?_) ?_ ?_
               rotate_left
               ·simp only [putAll, Act.put, List.setIfInBounds_toArray, List.set_cons_zero, List.set_cons_succ]
                rfl
               refine two_ (i := 24) (j := 28) (Ni := some 43) (Nj := some 7) #[true, true, true, true, true, true, true, true, true, true, true, true, true, true, true, true, true, true, true, true, true, true, true, true, true, true, false, false, false, false] #[true, true, true, true, true, true, true, true, true, true, true, true, true, true, true, true, true, true, true, true, true, true, true, true, false, true, false, false, true, false] rfl rfl rfl rfl (two_of HT_.out (by kernel_rfl)) (by decide) (by decide) (fun K hK => ?_) (fun K hK => ?_)
               ·skip
                refine goes_ Try.func79 (by kernel_rfl) rfl #[.slice (some ad181) yc_.length (c0 - x5_1.toNat), .int .i64 7, .int .i64 2] (by rfl) rfl rfl (by (try simp only [List.map_toArray, List.map_cons, List.map_nil]); first | done | (rw [show yc_.length = ((wrap64 (x5_1 + 13)).toNat - x5_1.toNat) from (by rw [List.length_drop, List.length_take]; have h_ : ((wrap64 (x5_1 + 13)) : Int) ≤ (l0.length : Int) := of_decide_eq_true (by first | (with_reducible assumption) | assumption); omega)] <;> rfl) | rfl | (simp only [List.length_drop, List.length_take]; rfl)) ?_
                with_reducible refine (spec_l1Take.calls k1 _ _ yc_ 7 2 t187 _ ?side1 ?side2 A13.out).mono ?_
                (case side1 => repeat (first | exact (Kd.C_below HR180.out HB.out) | (with_reducible refine Kd.C_alloc ?_ _) | (with_reducible refine Kd.C_drewN ?_ _) | (with_reducible refine Kd.C_drew ?_)))
                (case side2 => exact HC180.out)
                rintro e w' ⟨rfl, ⟨nd, rfl⟩⟩
                refine ⟨_, rfl, ?_⟩
                refine hK.out _ _ ⟨((HB.out.cell (World.block_lt_of_cell? w _ hw181_0)).trans hw181_0), ((HB.out.cell (World.block_lt_of_cell? w _ hw183_0)).trans hw183_0), ((HB.out.cell (World.block_lt_of_cell? w _ hw184_0)).trans hw184_0), ((HB.out.cell (World.block_lt_of_cell? w _ hw186_0)).trans hw186_0)⟩ (fun hHeld => ?_)
                clear hK K
                refine norm_ (a' := ?_) ?_ ?_
                rotate_left
                ·show Act.put _ (some 43) _ = _
                 simp only [Act.put, List.setIfInBounds_toArray, List.set_cons_zero, List.set_cons_succ, i64_w, i32_w]
                 rfl
                exact norm_ (by first | (simp only [putAll, Act.put, List.setIfInBounds_toArray, List.set_cons_zero, List.set_cons_succ]; done) | (simp only [putAll, Act.put, List.setIfInBounds_toArray, List.set_cons_zero, List.set_cons_succ]; rfl)) (hJ5_16_24 () _ ⟨hHeld, (by (with_reducible repeat (first | apply Kd.R_alloc | apply Kd.R_drewN | apply Kd.R_drew)); exact HO_4.out), (by repeat (first | (with_reducible first | exact HB.out | apply below_alloc | apply pw_below_drewN | apply below_drew1) | exact HB.out))⟩)
               ·skip
                refine box_step ?hg (N := 7) ?hd (cs := #[.int .i64 0, .int .i64 0, .int .i64 0, .bool false, .int .i64 0, .bool false, .int .i64 0, .int .i64 0]) (t := 48) ?hr ?_; (case hd => rfl); (case hg => rfl); (case hr => first | (go_simp; done) | (go_simp; rfl))
                intro gb189 hg w23 hbox hb
                have n0_ := Aside0.mk (Kd.R_below (Kd.R_elderB (by (with_reducible repeat (first | apply Kd.R_alloc | apply Kd.R_drewN | apply Kd.R_drew)); exact HO_4.out) gb189 (Nat.le_of_eq hg.symm)) hb)
                have n1_ := Aside0.mk (below_step (by repeat (first | (with_reducible first | exact HB.out | apply below_alloc | apply pw_below_drewN | apply below_drew1) | exact HB.out)) hb)
                have n2_ := Aside0.mk (hbox)
                have n3_ := Aside0.mk ((by rw [hg]; exact (below_size (by repeat (first | (with_reducible first | exact HB.out | apply below_alloc | apply pw_below_drewN | apply below_drew1) | exact HB.out))) : w.heap.size ≤ gb189))
                have n4_ := Aside0.mk ((by rw [hg]; exact (below_size (by repeat (first | (with_reducible first | exact HB.out | apply below_alloc | apply pw_below_drewN | apply below_drew1) | exact HB.out))) : w.heap.size ≤ gb189))
                clear HO_4
                clear HB
                have HO_4 := n0_
                have HB := n1_
                have BK189 := n2_
                have GW189 := n3_
                have GE189 := n4_
                clear n0_ n1_ n2_ n3_ n4_
                clear hb hbox hg
                refine hK.out _ _ ⟨((HB.out.cell (World.block_lt_of_cell? w _ hw181_0)).trans hw181_0), ((HB.out.cell (World.block_lt_of_cell? w _ hw183_0)).trans hw183_0), ((HB.out.cell (World.block_lt_of_cell? w _ hw184_0)).trans hw184_0), ((HB.out.cell (World.block_lt_of_cell? w _ hw186_0)).trans hw186_0)⟩ (fun hHeld => ?_)
                clear hK K
                refine norm_ (a' := ?_) ?_ ?_
                rotate_left
                ·show Act.put _ (some 7) _ = _
                 simp only [Act.put, List.setIfInBounds_toArray, List.set_cons_zero, List.set_cons_succ, i64_w, i32_w]
                 rfl
                exact norm_ (by first | (simp only [putAll, Act.put, List.setIfInBounds_toArray, List.set_cons_zero, List.set_cons_succ]; done) | (simp only [putAll, Act.put, List.setIfInBounds_toArray, List.set_cons_zero, List.set_cons_succ]; rfl)) (hJ5_16_28 (gb189) _ ⟨hHeld, (by (with_reducible repeat (first | apply Kd.R_alloc | apply Kd.R_drewN | apply Kd.R_drew)); exact Kd.R_mono HO_4.out (fun _ hk => hk.2)), (by (with_reducible repeat (first | refine blk_drewN ?_ _ | refine blk_drew ?_ | refine blk_alloc ?_ _)); exact BK189.out), GW189.out, GE189.out, (by repeat (first | (with_reducible first | exact HB.out | apply below_alloc | apply pw_below_drewN | apply below_drew1 | refine below_set ?_ GE189.out) | exact HB.out))⟩)
             ·skip
              rintro gb189 w23 ⟨hS_, h0_, h1_, h2_, h3_, h4_⟩
              have n0_ : Aside0 (Kd.R k48 48 w23 w.heap.size (fun k_ => k_ ≠ gb189) u4 x4_1) := ⟨h0_⟩
              have n1_ : Aside0 (w23.heap[gb189]? = some (.cells #[.int .i64 0, .int .i64 0, .int .i64 0, .bool false, .int .i64 0, .bool false, .int .i64 0, .int .i64 0] 48 (0, 0))) := ⟨h1_⟩
              have n2_ : Aside0 (w.heap.size ≤ gb189) := ⟨h2_⟩
              have n3_ : Aside0 (w.heap.size ≤ gb189) := ⟨h3_⟩
              have n4_ : Aside0 (Below w.heap.size w w23) := ⟨h4_⟩
              clear HO_4
              clear HB
              clear h0_ h1_ h2_ h3_ h4_
              have HO_4 := n0_
              have BK189 := n1_
              have GW189 := n2_
              have GE189 := n3_
              have HB := n4_
              clear n0_ n1_ n2_ n3_ n4_
              have hHeld : w23.cell? ad181 = some (.int .u8 (rd yc_ 0)) ∧ w23.cell? ⟨ad181.block, ad181.off + 3, none⟩ = some (.int .u8 (rd yc_ 3)) ∧ w23.cell? ⟨ad181.block, ad181.off + 4, none⟩ = some (.int .u8 (rd yc_ 4)) ∧ w23.cell? ⟨ad181.block, ad181.off + 4, none⟩ = some (.int .u8 (rd yc_ 4)) := hS_
              refine norm_ (a' := ?_) ?_ ?_
              rotate_left
              ·simp only [putAll, Act.put, List.setIfInBounds_toArray, List.set_cons_zero, List.set_cons_succ]
               rfl
              refine one_ (i := 24) (N := some 43) #[true, true, true, true, true, true, true, true, true, true, true, true, true, true, true, true, true, true, true, true, true, true, true, true, true, true, false, false, true, false] rfl rfl (one_of HT_.out (by kernel_rfl)) (by decide) (fun K hK => ?_)
              refine goes_ Try.func79 (by kernel_rfl) rfl #[.slice (some ad181) yc_.length (c0 - x5_1.toNat), .int .i64 7, .int .i64 2] (by rfl) rfl rfl (by (try simp only [List.map_toArray, List.map_cons, List.map_nil]); first | done | (rw [show yc_.length = ((wrap64 (x5_1 + 13)).toNat - x5_1.toNat) from (by rw [List.length_drop, List.length_take]; have h_ : ((wrap64 (x5_1 + 13)) : Int) ≤ (l0.length : Int) := of_decide_eq_true (by first | (with_reducible assumption) | assumption); omega)] <;> rfl) | rfl | (simp only [List.length_drop, List.length_take]; rfl)) ?_
              with_reducible refine (spec_l1Take.calls k1 _ _ yc_ 7 2 t187 _ ?side1 ?side2 A13.out).mono ?_
              (case side1 => repeat (first | exact (Kd.C_below HR180.out HB.out) | (with_reducible refine Kd.C_alloc ?_ _) | (with_reducible refine Kd.C_drewN ?_ _) | (with_reducible refine Kd.C_drew ?_)))
              (case side2 => exact HC180.out)
              rintro e w' ⟨rfl, ⟨nd, rfl⟩⟩
              refine ⟨_, rfl, ?_⟩
              refine hK.out _ _ ⟨((HB.out.cell (World.block_lt_of_cell? w _ hw181_0)).trans hw181_0), ((HB.out.cell (World.block_lt_of_cell? w _ hw183_0)).trans hw183_0), ((HB.out.cell (World.block_lt_of_cell? w _ hw184_0)).trans hw184_0), ((HB.out.cell (World.block_lt_of_cell? w _ hw186_0)).trans hw186_0)⟩ (fun hHeld => ?_)
              clear hK K
              refine norm_ (a' := ?_) ?_ ?_
              rotate_left
              ·show Act.put _ (some 43) _ = _
               simp only [Act.put, List.setIfInBounds_toArray, List.set_cons_zero, List.set_cons_succ, i64_w, i32_w]
               rfl
              exact norm_ (by first | (simp only [putAll, Act.put, List.setIfInBounds_toArray, List.set_cons_zero, List.set_cons_succ]; done) | (simp only [putAll, Act.put, List.setIfInBounds_toArray, List.set_cons_zero, List.set_cons_succ]; rfl)) (hJ5_16_24_28 (gb189) _ ⟨hHeld, (by (with_reducible repeat (first | apply Kd.R_alloc | apply Kd.R_drewN | apply Kd.R_drew)); exact HO_4.out), (by (with_reducible repeat (first | refine blk_drewN ?_ _ | refine blk_drew ?_ | refine blk_alloc ?_ _)); exact BK189.out), GW189.out, GE189.out, (by repeat (first | (with_reducible first | exact HB.out | apply below_alloc | apply pw_below_drewN | apply below_drew1 | refine below_set ?_ GE189.out) | exact HB.out))⟩)
            ·skip
             rintro _ w22 ⟨hS_, h0_, h1_⟩
             have n0_ : Aside0 (Kd.R k48 48 w22 w.heap.size (fun _ => True) u4 x4_1) := ⟨h0_⟩
             have n1_ : Aside0 (Below w.heap.size w w22) := ⟨h1_⟩
             clear HO_4
             clear HB
             clear h0_ h1_
             have HO_4 := n0_
             have HB := n1_
             clear n0_ n1_
             have hHeld : w22.cell? ad181 = some (.int .u8 (rd yc_ 0)) ∧ w22.cell? ⟨ad181.block, ad181.off + 3, none⟩ = some (.int .u8 (rd yc_ 3)) ∧ w22.cell? ⟨ad181.block, ad181.off + 4, none⟩ = some (.int .u8 (rd yc_ 4)) ∧ w22.cell? ⟨ad181.block, ad181.off + 4, none⟩ = some (.int .u8 (rd yc_ 4)) := hS_
             refine norm_ (a' := ?_) ?_ ?_
             rotate_left
             ·simp only [putAll, Act.put, List.setIfInBounds_toArray, List.set_cons_zero, List.set_cons_succ]
              rfl
             refine two_ (i := 26) (j := 28) (Ni := some 45) (Nj := some 7) #[true, true, true, true, true, true, true, true, true, true, true, true, true, true, true, true, true, true, true, true, true, true, true, true, true, true, true, false, false, false] #[true, true, true, true, true, true, true, true, true, true, true, true, true, true, true, true, true, true, true, true, true, true, true, true, true, true, false, false, true, false] rfl rfl rfl rfl (two_of HT_.out (by kernel_rfl)) (by decide) (by decide) (fun K hK => ?_) (fun K hK => ?_)
             ·skip
              refine goes_ Try.func79 (by kernel_rfl) rfl #[.slice (some ad181) yc_.length (c0 - x5_1.toNat), .int .i64 9, .int .i64 2] (by rfl) rfl rfl (by (try simp only [List.map_toArray, List.map_cons, List.map_nil]); first | done | (rw [show yc_.length = ((wrap64 (x5_1 + 13)).toNat - x5_1.toNat) from (by rw [List.length_drop, List.length_take]; have h_ : ((wrap64 (x5_1 + 13)) : Int) ≤ (l0.length : Int) := of_decide_eq_true (by first | (with_reducible assumption) | assumption); omega)] <;> rfl) | rfl | (simp only [List.length_drop, List.length_take]; rfl)) ?_
              with_reducible refine (spec_l1Take.calls k1 _ _ yc_ 9 2 t188 _ ?side1 ?side2 A14.out).mono ?_
              (case side1 => repeat (first | exact (Kd.C_below HR180.out HB.out) | (with_reducible refine Kd.C_alloc ?_ _) | (with_reducible refine Kd.C_drewN ?_ _) | (with_reducible refine Kd.C_drew ?_)))
              (case side2 => exact HC180.out)
              rintro e w' ⟨rfl, ⟨nd, rfl⟩⟩
              refine ⟨_, rfl, ?_⟩
              refine hK.out _ _ ⟨((HB.out.cell (World.block_lt_of_cell? w _ hw181_0)).trans hw181_0), ((HB.out.cell (World.block_lt_of_cell? w _ hw183_0)).trans hw183_0), ((HB.out.cell (World.block_lt_of_cell? w _ hw184_0)).trans hw184_0), ((HB.out.cell (World.block_lt_of_cell? w _ hw186_0)).trans hw186_0)⟩ (fun hHeld => ?_)
              clear hK K
              refine norm_ (a' := ?_) ?_ ?_
              rotate_left
              ·show Act.put _ (some 45) _ = _
               simp only [Act.put, List.setIfInBounds_toArray, List.set_cons_zero, List.set_cons_succ, i64_w, i32_w]
               rfl
              refine pure_ (i := 27) (N := some 46) (v := ?_) (a' := ?_) #[true, true, true, true, true, true, true, true, true, true, true, true, true, true, true, true, true, true, true, true, true, true, true, true, true, true, true, true, false, false] rfl rfl (any_of HT_.out (by kernel_rfl)) (fun _ _ _ h => h) (Or.inl ⟨by rfl, ?_⟩) ?_ ?_
              rotate_left
              ·intro w'
               go_simp
               with_reducible rfl
              rotate_left
              ·simp only [Act.put, List.setIfInBounds_toArray, List.set_cons_zero, List.set_cons_succ, i64_w, i32_w]
               rfl
              exact norm_ (by first | (simp only [putAll, Act.put, List.setIfInBounds_toArray, List.set_cons_zero, List.set_cons_succ]; done) | (simp only [putAll, Act.put, List.setIfInBounds_toArray, List.set_cons_zero, List.set_cons_succ]; rfl)) (hJ5_16_24_26 () _ ⟨hHeld, (by (with_reducible repeat (first | apply Kd.R_alloc | apply Kd.R_drewN | apply Kd.R_drew)); exact HO_4.out), (by repeat (first | (with_reducible first | exact HB.out | apply below_alloc | apply pw_below_drewN | apply below_drew1) | exact HB.out))⟩)
             ·skip
              refine box_step ?hg (N := 7) ?hd (cs := #[.int .i64 0, .int .i64 0, .int .i64 0, .bool false, .int .i64 0, .bool false, .int .i64 0, .int .i64 0]) (t := 48) ?hr ?_; (case hd => rfl); (case hg => rfl); (case hr => first | (go_simp; done) | (go_simp; rfl))
              intro gb189 hg w23 hbox hb
              have n0_ := Aside0.mk (Kd.R_below (Kd.R_elderB (by (with_reducible repeat (first | apply Kd.R_alloc | apply Kd.R_drewN | apply Kd.R_drew)); exact HO_4.out) gb189 (Nat.le_of_eq hg.symm)) hb)
              have n1_ := Aside0.mk (below_step (by repeat (first | (with_reducible first | exact HB.out | apply below_alloc | apply pw_below_drewN | apply below_drew1) | exact HB.out)) hb)
              have n2_ := Aside0.mk (hbox)
              have n3_ := Aside0.mk ((by rw [hg]; exact (below_size (by repeat (first | (with_reducible first | exact HB.out | apply below_alloc | apply pw_below_drewN | apply below_drew1) | exact HB.out))) : w.heap.size ≤ gb189))
              have n4_ := Aside0.mk ((by rw [hg]; exact (below_size (by repeat (first | (with_reducible first | exact HB.out | apply below_alloc | apply pw_below_drewN | apply below_drew1) | exact HB.out))) : w.heap.size ≤ gb189))
              clear HO_4
              clear HB
              have HO_4 := n0_
              have HB := n1_
              have BK189 := n2_
              have GW189 := n3_
              have GE189 := n4_
              clear n0_ n1_ n2_ n3_ n4_
              clear hb hbox hg
              refine hK.out _ _ ⟨((HB.out.cell (World.block_lt_of_cell? w _ hw181_0)).trans hw181_0), ((HB.out.cell (World.block_lt_of_cell? w _ hw183_0)).trans hw183_0), ((HB.out.cell (World.block_lt_of_cell? w _ hw184_0)).trans hw184_0), ((HB.out.cell (World.block_lt_of_cell? w _ hw186_0)).trans hw186_0)⟩ (fun hHeld => ?_)
              clear hK K
              refine norm_ (a' := ?_) ?_ ?_
              rotate_left
              ·show Act.put _ (some 7) _ = _
               simp only [Act.put, List.setIfInBounds_toArray, List.set_cons_zero, List.set_cons_succ, i64_w, i32_w]
               rfl
              exact norm_ (by first | (simp only [putAll, Act.put, List.setIfInBounds_toArray, List.set_cons_zero, List.set_cons_succ]; done) | (simp only [putAll, Act.put, List.setIfInBounds_toArray, List.set_cons_zero, List.set_cons_succ]; rfl)) (hJ5_16_24_28 (gb189) _ ⟨hHeld, (by (with_reducible repeat (first | apply Kd.R_alloc | apply Kd.R_drewN | apply Kd.R_drew)); exact Kd.R_mono HO_4.out (fun _ hk => hk.2)), (by (with_reducible repeat (first | refine blk_drewN ?_ _ | refine blk_drew ?_ | refine blk_alloc ?_ _)); exact BK189.out), GW189.out, GE189.out, (by repeat (first | (with_reducible first | exact HB.out | apply below_alloc | apply pw_below_drewN | apply below_drew1 | refine below_set ?_ GE189.out) | exact HB.out))⟩)
           ·skip
            rintro gb189 w23 ⟨hS_, h0_, h1_, h2_, h3_, h4_⟩
            have n0_ : Aside0 (Kd.R k48 48 w23 w.heap.size (fun k_ => k_ ≠ gb189) u4 x4_1) := ⟨h0_⟩
            have n1_ : Aside0 (w23.heap[gb189]? = some (.cells #[.int .i64 0, .int .i64 0, .int .i64 0, .bool false, .int .i64 0, .bool false, .int .i64 0, .int .i64 0] 48 (0, 0))) := ⟨h1_⟩
            have n2_ : Aside0 (w.heap.size ≤ gb189) := ⟨h2_⟩
            have n3_ : Aside0 (w.heap.size ≤ gb189) := ⟨h3_⟩
            have n4_ : Aside0 (Below w.heap.size w w23) := ⟨h4_⟩
            clear HO_4
            clear HB
            clear h0_ h1_ h2_ h3_ h4_
            have HO_4 := n0_
            have BK189 := n1_
            have GW189 := n2_
            have GE189 := n3_
            have HB := n4_
            clear n0_ n1_ n2_ n3_ n4_
            have hHeld : w23.cell? ad181 = some (.int .u8 (rd yc_ 0)) ∧ w23.cell? ⟨ad181.block, ad181.off + 3, none⟩ = some (.int .u8 (rd yc_ 3)) ∧ w23.cell? ⟨ad181.block, ad181.off + 4, none⟩ = some (.int .u8 (rd yc_ 4)) ∧ w23.cell? ⟨ad181.block, ad181.off + 4, none⟩ = some (.int .u8 (rd yc_ 4)) := hS_
            refine norm_ (a' := ?_) ?_ ?_
            rotate_left
            ·simp only [putAll, Act.put, List.setIfInBounds_toArray, List.set_cons_zero, List.set_cons_succ]
             rfl
            refine one_ (i := 26) (N := some 45) #[true, true, true, true, true, true, true, true, true, true, true, true, true, true, true, true, true, true, true, true, true, true, true, true, true, true, true, false, true, false] rfl rfl (one_of HT_.out (by kernel_rfl)) (by decide) (fun K hK => ?_)
            refine goes_ Try.func79 (by kernel_rfl) rfl #[.slice (some ad181) yc_.length (c0 - x5_1.toNat), .int .i64 9, .int .i64 2] (by rfl) rfl rfl (by (try simp only [List.map_toArray, List.map_cons, List.map_nil]); first | done | (rw [show yc_.length = ((wrap64 (x5_1 + 13)).toNat - x5_1.toNat) from (by rw [List.length_drop, List.length_take]; have h_ : ((wrap64 (x5_1 + 13)) : Int) ≤ (l0.length : Int) := of_decide_eq_true (by first | (with_reducible assumption) | assumption); omega)] <;> rfl) | rfl | (simp only [List.length_drop, List.length_take]; rfl)) ?_
            with_reducible refine (spec_l1Take.calls k1 _ _ yc_ 9 2 t188 _ ?side1 ?side2 A14.out).mono ?_
            (case side1 => repeat (first | exact (Kd.C_below HR180.out HB.out) | (with_reducible refine Kd.C_alloc ?_ _) | (with_reducible refine Kd.C_drewN ?_ _) | (with_reducible refine Kd.C_drew ?_)))
            (case side2 => exact HC180.out)
            rintro e w' ⟨rfl, ⟨nd, rfl⟩⟩
            refine ⟨_, rfl, ?_⟩
            refine hK.out _ _ ⟨((HB.out.cell (World.block_lt_of_cell? w _ hw181_0)).trans hw181_0), ((HB.out.cell (World.block_lt_of_cell? w _ hw183_0)).trans hw183_0), ((HB.out.cell (World.block_lt_of_cell? w _ hw184_0)).trans hw184_0), ((HB.out.cell (World.block_lt_of_cell? w _ hw186_0)).trans hw186_0)⟩ (fun hHeld => ?_)
            clear hK K
            refine norm_ (a' := ?_) ?_ ?_
            rotate_left
            ·show Act.put _ (some 45) _ = _
             simp only [Act.put, List.setIfInBounds_toArray, List.set_cons_zero, List.set_cons_succ, i64_w, i32_w]
             rfl
            refine pure_ (i := 27) (N := some 46) (v := ?_) (a' := ?_) #[true, true, true, true, true, true, true, true, true, true, true, true, true, true, true, true, true, true, true, true, true, true, true, true, true, true, true, true, true, false] rfl rfl (any_of HT_.out (by kernel_rfl)) (fun _ _ _ h => h) (Or.inl ⟨by rfl, ?_⟩) ?_ ?_
            rotate_left
            ·intro w'
             go_simp
             with_reducible rfl
            rotate_left
            ·simp only [Act.put, List.setIfInBounds_toArray, List.set_cons_zero, List.set_cons_succ, i64_w, i32_w]
             rfl
            exact norm_ (by first | (simp only [putAll, Act.put, List.setIfInBounds_toArray, List.set_cons_zero, List.set_cons_succ]; done) | (simp only [putAll, Act.put, List.setIfInBounds_toArray, List.set_cons_zero, List.set_cons_succ]; rfl)) (hJ5_16_24_26_28 (gb189) _ ⟨hHeld, (by (with_reducible repeat (first | apply Kd.R_alloc | apply Kd.R_drewN | apply Kd.R_drew)); exact HO_4.out), (by (with_reducible repeat (first | refine blk_drewN ?_ _ | refine blk_drew ?_ | refine blk_alloc ?_ _)); exact BK189.out), GW189.out, GE189.out, (by repeat (first | (with_reducible first | exact HB.out | apply below_alloc | apply pw_below_drewN | apply below_drew1 | refine below_set ?_ GE189.out) | exact HB.out))⟩)
          ·skip
           rintro _ w22 ⟨hS_, h0_, h1_⟩
           have n0_ : Aside0 (Kd.R k48 48 w22 w.heap.size (fun _ => True) u4 x4_1) := ⟨h0_⟩
           have n1_ : Aside0 (Below w.heap.size w w22) := ⟨h1_⟩
           clear HO_4
           clear HB
           clear h0_ h1_
           have HO_4 := n0_
           have HB := n1_
           clear n0_ n1_
           have hHeld : w22.cell? ad181 = some (.int .u8 (rd yc_ 0)) ∧ w22.cell? ⟨ad181.block, ad181.off + 3, none⟩ = some (.int .u8 (rd yc_ 3)) ∧ w22.cell? ⟨ad181.block, ad181.off + 4, none⟩ = some (.int .u8 (rd yc_ 4)) ∧ w22.cell? ⟨ad181.block, ad181.off + 4, none⟩ = some (.int .u8 (rd yc_ 4)) := hS_
           refine norm_ (a' := ?_) ?_ ?_
           rotate_left
           ·simp only [putAll, Act.put, List.setIfInBounds_toArray, List.set_cons_zero, List.set_cons_succ]
            rfl
           refine one_ (i := 28) (N := some 7) #[true, true, true, true, true, true, true, true, true, true, true, true, true, true, true, true, true, true, true, true, true, true, true, true, true, true, true, true, true, false] rfl rfl (one_of HT_.out (by kernel_rfl)) (by decide) (fun K hK => ?_)
           refine box_step ?hg (N := 7) ?hd (cs := #[.int .i64 0, .int .i64 0, .int .i64 0, .bool false, .int .i64 0, .bool false, .int .i64 0, .int .i64 0]) (t := 48) ?hr ?_; (case hd => rfl); (case hg => rfl); (case hr => first | (go_simp; done) | (go_simp; rfl))
           intro gb189 hg w23 hbox hb
           have n0_ := Aside0.mk (Kd.R_below (Kd.R_elderB (by (with_reducible repeat (first | apply Kd.R_alloc | apply Kd.R_drewN | apply Kd.R_drew)); exact HO_4.out) gb189 (Nat.le_of_eq hg.symm)) hb)
           have n1_ := Aside0.mk (below_step (by repeat (first | (with_reducible first | exact HB.out | apply below_alloc | apply pw_below_drewN | apply below_drew1) | exact HB.out)) hb)
           have n2_ := Aside0.mk (hbox)
           have n3_ := Aside0.mk ((by rw [hg]; exact (below_size (by repeat (first | (with_reducible first | exact HB.out | apply below_alloc | apply pw_below_drewN | apply below_drew1) | exact HB.out))) : w.heap.size ≤ gb189))
           have n4_ := Aside0.mk ((by rw [hg]; exact (below_size (by repeat (first | (with_reducible first | exact HB.out | apply below_alloc | apply pw_below_drewN | apply below_drew1) | exact HB.out))) : w.heap.size ≤ gb189))
           clear HO_4
           clear HB
           have HO_4 := n0_
           have HB := n1_
           have BK189 := n2_
           have GW189 := n3_
           have GE189 := n4_
           clear n0_ n1_ n2_ n3_ n4_
           clear hb hbox hg
           refine hK.out _ _ ⟨((HB.out.cell (World.block_lt_of_cell? w _ hw181_0)).trans hw181_0), ((HB.out.cell (World.block_lt_of_cell? w _ hw183_0)).trans hw183_0), ((HB.out.cell (World.block_lt_of_cell? w _ hw184_0)).trans hw184_0), ((HB.out.cell (World.block_lt_of_cell? w _ hw186_0)).trans hw186_0)⟩ (fun hHeld => ?_)
           clear hK K
           refine norm_ (a' := ?_) ?_ ?_
           rotate_left
           ·show Act.put _ (some 7) _ = _
            simp only [Act.put, List.setIfInBounds_toArray, List.set_cons_zero, List.set_cons_succ, i64_w, i32_w]
            rfl
           exact norm_ (by first | (simp only [putAll, Act.put, List.setIfInBounds_toArray, List.set_cons_zero, List.set_cons_succ]; done) | (simp only [putAll, Act.put, List.setIfInBounds_toArray, List.set_cons_zero, List.set_cons_succ]; rfl)) (hJ5_16_24_26_28 (gb189) _ ⟨hHeld, (by (with_reducible repeat (first | apply Kd.R_alloc | apply Kd.R_drewN | apply Kd.R_drew)); exact Kd.R_mono HO_4.out (fun _ hk => hk.2)), (by (with_reducible repeat (first | refine blk_drewN ?_ _ | refine blk_drew ?_ | refine blk_alloc ?_ _)); exact BK189.out), GW189.out, GE189.out, (by repeat (first | (with_reducible first | exact HB.out | apply below_alloc | apply pw_below_drewN | apply below_drew1 | refine below_set ?_ GE189.out) | exact HB.out))⟩)
         rintro gb189 w23 ⟨hS_, h0_, h1_, h2_, h3_, h4_⟩
         have n0_ : Aside0 (Kd.R k48 48 w23 w.heap.size (fun k_ => k_ ≠ gb189) u4 x4_1) := ⟨h0_⟩
         have n1_ : Aside0 (w23.heap[gb189]? = some (.cells #[.int .i64 0, .int .i64 0, .int .i64 0, .bool false, .int .i64 0, .bool false, .int .i64 0, .int .i64 0] 48 (0, 0))) := ⟨h1_⟩
         have n2_ : Aside0 (w.heap.size ≤ gb189) := ⟨h2_⟩
         have n3_ : Aside0 (w.heap.size ≤ gb189) := ⟨h3_⟩
         have n4_ : Aside0 (Below w.heap.size w w23) := ⟨h4_⟩
         clear HO_4
         clear HB
         clear h0_ h1_ h2_ h3_ h4_
         have HO_4 := n0_
         have BK189 := n1_
         have GW189 := n2_
         have GE189 := n3_
         have HB := n4_
         clear n0_ n1_ n2_ n3_ n4_
         have hHeld : w23.cell? ad181 = some (.int .u8 (rd yc_ 0)) ∧ w23.cell? ⟨ad181.block, ad181.off + 3, none⟩ = some (.int .u8 (rd yc_ 3)) ∧ w23.cell? ⟨ad181.block, ad181.off + 4, none⟩ = some (.int .u8 (rd yc_ 4)) ∧ w23.cell? ⟨ad181.block, ad181.off + 4, none⟩ = some (.int .u8 (rd yc_ 4)) := hS_
         refine norm_ (a' := ?_) ?_ ?_
         rotate_left
         ·simp only [putAll, Act.put, List.setIfInBounds_toArray, List.set_cons_zero, List.set_cons_succ]
          rfl
         refine one_ (i := 29) (N := none) #[true, true, true, true, true, true, true, true, true, true, true, true, true, true, true, true, true, true, true, true, true, true, true, true, true, true, true, true, true, true] rfl rfl (one_of HT_.out (by kernel_rfl)) (by decide) (fun K hK => ?_)
         have hs24 : w23.cell? ⟨gb189, 0, none⟩ = some (.int .i64 0) := (blk_cell BK189.out 0).trans rfl
         have hfs24 := blk_frozen BK189.out 0
         have hs25 : w23.cell? ⟨gb189, 1, none⟩ = some (.int .i64 0) := (blk_cell BK189.out 1).trans rfl
         have hfs25 := blk_frozen BK189.out 1
         have hs26 : w23.cell? ⟨gb189, 2, none⟩ = some (.int .i64 0) := (blk_cell BK189.out 2).trans rfl
         have hfs26 := blk_frozen BK189.out 2
         have hs27 : w23.cell? ⟨gb189, 3, none⟩ = some (.bool false) := (blk_cell BK189.out 3).trans rfl
         have hfs27 := blk_frozen BK189.out 3
         have hs28 : w23.cell? ⟨gb189, 4, none⟩ = some (.int .i64 0) := (blk_cell BK189.out 4).trans rfl
         have hfs28 := blk_frozen BK189.out 4
         have hs29 : w23.cell? ⟨gb189, 5, none⟩ = some (.bool false) := (blk_cell BK189.out 5).trans rfl
         have hfs29 := blk_frozen BK189.out 5
         have hs30 : w23.cell? ⟨gb189, 6, none⟩ = some (.int .i64 0) := (blk_cell BK189.out 6).trans rfl
         have hfs30 := blk_frozen BK189.out 6
         have hs31 : w23.cell? ⟨gb189, 7, none⟩ = some (.int .i64 0) := (blk_cell BK189.out 7).trans rfl
         have hfs31 := blk_frozen BK189.out 7
         refine skip_ (w1 := ?_) (by rfl) rfl ?_ ?_
         rotate_left
         ·go_simp
          rfl
         have NE_hw181_0_GW189 := Nat.ne_of_lt (Nat.lt_of_lt_of_le (World.block_lt_of_cell? _ _ hw181_0) GW189.out)
         have NE_hw183_0_GW189 := Nat.ne_of_lt (Nat.lt_of_lt_of_le (World.block_lt_of_cell? _ _ hw183_0) GW189.out)
         have NE_hw184_0_GW189 := Nat.ne_of_lt (Nat.lt_of_lt_of_le (World.block_lt_of_cell? _ _ hw184_0) GW189.out)
         have NE_hw186_0_GW189 := Nat.ne_of_lt (Nat.lt_of_lt_of_le (World.block_lt_of_cell? _ _ hw186_0) GW189.out)
         refine hK.out _ _ ⟨((cell_far (p := ⟨gb189, _, none⟩) (by exact NE_hw181_0_GW189) _).trans (((cell_far (p := ⟨gb189, _, none⟩) (by exact NE_hw181_0_GW189) _).trans (((cell_far (p := ⟨gb189, _, none⟩) (by exact NE_hw181_0_GW189) _).trans (((cell_far (p := ⟨gb189, _, none⟩) (by exact NE_hw181_0_GW189) _).trans (((cell_far (p := ⟨gb189, _, none⟩) (by exact NE_hw181_0_GW189) _).trans (((cell_far (p := ⟨gb189, _, none⟩) (by exact NE_hw181_0_GW189) _).trans (((cell_far (p := ⟨gb189, _, none⟩) (by exact NE_hw181_0_GW189) _).trans (((cell_far (p := ⟨gb189, _, none⟩) (by exact NE_hw181_0_GW189) _).trans (hHeld.1)))))))))))))))), ((cell_far (p := ⟨gb189, _, none⟩) (by exact NE_hw183_0_GW189) _).trans (((cell_far (p := ⟨gb189, _, none⟩) (by exact NE_hw183_0_GW189) _).trans (((cell_far (p := ⟨gb189, _, none⟩) (by exact NE_hw183_0_GW189) _).trans (((cell_far (p := ⟨gb189, _, none⟩) (by exact NE_hw183_0_GW189) _).trans (((cell_far (p := ⟨gb189, _, none⟩) (by exact NE_hw183_0_GW189) _).trans (((cell_far (p := ⟨gb189, _, none⟩) (by exact NE_hw183_0_GW189) _).trans (((cell_far (p := ⟨gb189, _, none⟩) (by exact NE_hw183_0_GW189) _).trans (((cell_far (p := ⟨gb189, _, none⟩) (by exact NE_hw183_0_GW189) _).trans (hHeld.2.1)))))))))))))))), ((cell_far (p := ⟨gb189, _, none⟩) (by exact NE_hw184_0_GW189) _).trans (((cell_far (p := ⟨gb189, _, none⟩) (by exact NE_hw184_0_GW189) _).trans (((cell_far (p := ⟨gb189, _, none⟩) (by exact NE_hw184_0_GW189) _).trans (((cell_far (p := ⟨gb189, _, none⟩) (by exact NE_hw184_0_GW189) _).trans (((cell_far (p := ⟨gb189, _, none⟩) (by exact NE_hw184_0_GW189) _).trans (((cell_far (p := ⟨gb189, _, none⟩) (by exact NE_hw184_0_GW189) _).trans (((cell_far (p := ⟨gb189, _, none⟩) (by exact NE_hw184_0_GW189) _).trans (((cell_far (p := ⟨gb189, _, none⟩) (by exact NE_hw184_0_GW189) _).trans (hHeld.2.2.1)))))))))))))))), ((cell_far (p := ⟨gb189, _, none⟩) (by exact NE_hw186_0_GW189) _).trans (((cell_far (p := ⟨gb189, _, none⟩) (by exact NE_hw186_0_GW189) _).trans (((cell_far (p := ⟨gb189, _, none⟩) (by exact NE_hw186_0_GW189) _).trans (((cell_far (p := ⟨gb189, _, none⟩) (by exact NE_hw186_0_GW189) _).trans (((cell_far (p := ⟨gb189, _, none⟩) (by exact NE_hw186_0_GW189) _).trans (((cell_far (p := ⟨gb189, _, none⟩) (by exact NE_hw186_0_GW189) _).trans (((cell_far (p := ⟨gb189, _, none⟩) (by exact NE_hw186_0_GW189) _).trans (((cell_far (p := ⟨gb189, _, none⟩) (by exact NE_hw186_0_GW189) _).trans (hHeld.2.2.2))))))))))))))))⟩ (fun hHeld => ?_)
         try clear NE_hw181_0_GW189
         try clear NE_hw183_0_GW189
         try clear NE_hw184_0_GW189
         try clear NE_hw186_0_GW189
         clear hK K
         refine done_ (done_of HT_.out (by kernel_rfl)) ?_
         have H := HX_.out
         clear HX_
         by_cases c16 : t190 = 0
         ·rw [if_pos c16] at H
          have c16b0 : (t190 == 0) = true := beq_iff_eq.mpr c16
          have c16b1 : (t190 != 0) = false := bne_eq_false_iff_eq.mpr c16
          clear c16
          replace H := Option.bind_eq_some_iff.mp H
          obtain ⟨t191, A170, H⟩ := H
          replace H : (if (strOfNums t191).toList = (strOfNums yc_).toList then (if x4_1.length < 2199023255552 then (spec_l3Recs.l0 k1 l0 (x4_1 ++ [(⟨wrap64 (rd yc_ 0), t182, wrap64 (rd yc_ 3), ((Int.tmod (rd yc_ 4) 2) == 1), t185, (((Int.tdiv (rd yc_ 4) 2) % 2) == 1), t187, t188⟩ : S48)]) (wrap64 (x5_1 + 13))) else (none)) else (some (x4_1, x5_1))) = some (r1, r2) := H
          have A17 := Aside0.mk A170
          clear A170
          have HX_ := Aside0.mk H
          clear H
          try go_wp2
          have n0_ : Aside0 (Kd.R k48 48 ((((((((w23.setCell ⟨gb189, 0, none⟩ (.int .i64 (wrap64 (rd yc_ 0)))).setCell ⟨gb189, 1, none⟩ (.int .i64 t182)).setCell ⟨gb189, 2, none⟩ (.int .i64 (wrap64 (rd yc_ 3)))).setCell ⟨gb189, 3, none⟩ (.bool ((Int.tmod (rd yc_ 4) 2) == 1))).setCell ⟨gb189, 4, none⟩ (.int .i64 t185)).setCell ⟨gb189, 5, none⟩ (.bool (((Int.tdiv (rd yc_ 4) 2) % 2) == 1))).setCell ⟨gb189, 6, none⟩ (.int .i64 t187)).setCell ⟨gb189, 7, none⟩ (.int .i64 t188)) w.heap.size (fun k_ => k_ ≠ gb189) u4 x4_1) := ⟨by (with_reducible repeat (first | apply Kd.R_alloc | apply Kd.R_drewN | apply Kd.R_drew)); exact Kd.R_mono (Kd.R_far (p := ⟨gb189, 7, none⟩) (Kd.R_far (p := ⟨gb189, 6, none⟩) (Kd.R_far (p := ⟨gb189, 5, none⟩) (Kd.R_far (p := ⟨gb189, 4, none⟩) (Kd.R_far (p := ⟨gb189, 3, none⟩) (Kd.R_far (p := ⟨gb189, 2, none⟩) (Kd.R_far (p := ⟨gb189, 1, none⟩) (Kd.R_far (p := ⟨gb189, 0, none⟩) (Kd.R_mono HO_4.out (fun k_ hk => (⟨hk, hk⟩ : _ ∧ k_ ≠ gb189))) (fun _ hk => hk.2) (.int .i64 (wrap64 (rd yc_ 0)))) (fun _ hk => hk.2) (.int .i64 t182)) (fun _ hk => hk.2) (.int .i64 (wrap64 (rd yc_ 3)))) (fun _ hk => hk.2) (.bool ((Int.tmod (rd yc_ 4) 2) == 1))) (fun _ hk => hk.2) (.int .i64 t185)) (fun _ hk => hk.2) (.bool (((Int.tdiv (rd yc_ 4) 2) % 2) == 1))) (fun _ hk => hk.2) (.int .i64 t187)) (fun _ hk => hk.2) (.int .i64 t188)) (fun _ hk => hk.1)⟩
          have n1_ : Aside0 (((((((((w23.setCell ⟨gb189, 0, none⟩ (.int .i64 (wrap64 (rd yc_ 0)))).setCell ⟨gb189, 1, none⟩ (.int .i64 t182)).setCell ⟨gb189, 2, none⟩ (.int .i64 (wrap64 (rd yc_ 3)))).setCell ⟨gb189, 3, none⟩ (.bool ((Int.tmod (rd yc_ 4) 2) == 1))).setCell ⟨gb189, 4, none⟩ (.int .i64 t185)).setCell ⟨gb189, 5, none⟩ (.bool (((Int.tdiv (rd yc_ 4) 2) % 2) == 1))).setCell ⟨gb189, 6, none⟩ (.int .i64 t187)).setCell ⟨gb189, 7, none⟩ (.int .i64 t188)).heap[gb189]? = some (.cells #[.int .i64 (wrap64 (rd yc_ 0)), .int .i64 t182, .int .i64 (wrap64 (rd yc_ 3)), .bool ((Int.tmod (rd yc_ 4) 2) == 1), .int .i64 t185, .bool (((Int.tdiv (rd yc_ 4) 2) % 2) == 1), .int .i64 t187, .int .i64 t188] 48 (0, 0))) := ⟨by (with_reducible repeat (first | refine blk_drewN ?_ _ | refine blk_drew ?_ | refine blk_alloc ?_ _)); refine blk_put (cs := #[.int .i64 (wrap64 (rd yc_ 0)), .int .i64 t182, .int .i64 (wrap64 (rd yc_ 3)), .bool ((Int.tmod (rd yc_ 4) 2) == 1), .int .i64 t185, .bool (((Int.tdiv (rd yc_ 4) 2) % 2) == 1), .int .i64 t187, .int .i64 0]) ?_ 7 _ rfl; (with_reducible repeat (first | refine blk_drewN ?_ _ | refine blk_drew ?_ | refine blk_alloc ?_ _)); refine blk_put (cs := #[.int .i64 (wrap64 (rd yc_ 0)), .int .i64 t182, .int .i64 (wrap64 (rd yc_ 3)), .bool ((Int.tmod (rd yc_ 4) 2) == 1), .int .i64 t185, .bool (((Int.tdiv (rd yc_ 4) 2) % 2) == 1), .int .i64 0, .int .i64 0]) ?_ 6 _ rfl; (with_reducible repeat (first | refine blk_drewN ?_ _ | refine blk_drew ?_ | refine blk_alloc ?_ _)); refine blk_put (cs := #[.int .i64 (wrap64 (rd yc_ 0)), .int .i64 t182, .int .i64 (wrap64 (rd yc_ 3)), .bool ((Int.tmod (rd yc_ 4) 2) == 1), .int .i64 t185, .bool false, .int .i64 0, .int .i64 0]) ?_ 5 _ rfl; (with_reducible repeat (first | refine blk_drewN ?_ _ | refine blk_drew ?_ | refine blk_alloc ?_ _)); refine blk_put (cs := #[.int .i64 (wrap64 (rd yc_ 0)), .int .i64 t182, .int .i64 (wrap64 (rd yc_ 3)), .bool ((Int.tmod (rd yc_ 4) 2) == 1), .int .i64 0, .bool false, .int .i64 0, .int .i64 0]) ?_ 4 _ rfl; (with_reducible repeat (first | refine blk_drewN ?_ _ | refine blk_drew ?_ | refine blk_alloc ?_ _)); refine blk_put (cs := #[.int .i64 (wrap64 (rd yc_ 0)), .int .i64 t182, .int .i64 (wrap64 (rd yc_ 3)), .bool false, .int .i64 0, .bool false, .int .i64 0, .int .i64 0]) ?_ 3 _ rfl; (with_reducible repeat (first | refine blk_drewN ?_ _ | refine blk_drew ?_ | refine blk_alloc ?_ _)); refine blk_put (cs := #[.int .i64 (wrap64 (rd yc_ 0)), .int .i64 t182, .int .i64 0, .bool false, .int .i64 0, .bool false, .int .i64 0, .int .i64 0]) ?_ 2 _ rfl; (with_reducible repeat (first | refine blk_drewN ?_ _ | refine blk_drew ?_ | refine blk_alloc ?_ _)); refine blk_put (cs := #[.int .i64 (wrap64 (rd yc_ 0)), .int .i64 0, .int .i64 0, .bool false, .int .i64 0, .bool false, .int .i64 0, .int .i64 0]) ?_ 1 _ rfl; (with_reducible repeat (first | refine blk_drewN ?_ _ | refine blk_drew ?_ | refine blk_alloc ?_ _)); refine blk_put (cs := #[.int .i64 0, .int .i64 0, .int .i64 0, .bool false, .int .i64 0, .bool false, .int .i64 0, .int .i64 0]) ?_ 0 _ rfl; (with_reducible repeat (first | refine blk_drewN ?_ _ | refine blk_drew ?_ | refine blk_alloc ?_ _)); exact BK189.out⟩
          have n2_ : Aside0 (Below w.heap.size w ((((((((w23.setCell ⟨gb189, 0, none⟩ (.int .i64 (wrap64 (rd yc_ 0)))).setCell ⟨gb189, 1, none⟩ (.int .i64 t182)).setCell ⟨gb189, 2, none⟩ (.int .i64 (wrap64 (rd yc_ 3)))).setCell ⟨gb189, 3, none⟩ (.bool ((Int.tmod (rd yc_ 4) 2) == 1))).setCell ⟨gb189, 4, none⟩ (.int .i64 t185)).setCell ⟨gb189, 5, none⟩ (.bool (((Int.tdiv (rd yc_ 4) 2) % 2) == 1))).setCell ⟨gb189, 6, none⟩ (.int .i64 t187)).setCell ⟨gb189, 7, none⟩ (.int .i64 t188))) := ⟨by repeat (first | (with_reducible first | exact HB.out | apply below_alloc | apply pw_below_drewN | apply below_drew1 | refine below_set ?_ GE189.out) | exact HB.out)⟩
          (try clear HO_4)
          (try clear BK189)
          (try clear HB)
          generalize ((((((((w23.setCell ⟨gb189, 0, none⟩ (.int .i64 (wrap64 (rd yc_ 0)))).setCell ⟨gb189, 1, none⟩ (.int .i64 t182)).setCell ⟨gb189, 2, none⟩ (.int .i64 (wrap64 (rd yc_ 3)))).setCell ⟨gb189, 3, none⟩ (.bool ((Int.tmod (rd yc_ 4) 2) == 1))).setCell ⟨gb189, 4, none⟩ (.int .i64 t185)).setCell ⟨gb189, 5, none⟩ (.bool (((Int.tdiv (rd yc_ 4) 2) % 2) == 1))).setCell ⟨gb189, 6, none⟩ (.int .i64 t187)).setCell ⟨gb189, 7, none⟩ (.int .i64 t188)) = w32 at n0_ n1_ n2_ ⊢
          have HO_4 := n0_
          have BK189 := n1_
          have HB := n2_
          clear n0_ n1_ n2_
          have n0_ := Aside0.mk (Kd.R_drew HO_4.out)
          have n1_ := Aside0.mk (blk_drew BK189.out)
          have n2_ := Aside0.mk (below_drew1 HB.out)
          clear HO_4
          clear BK189
          clear HB
          have HO_4 := n0_
          have BK189 := n1_
          have HB := n2_
          clear n0_ n1_ n2_
          refine start_ (n := 11) (S := fun w' => w'.cell? ⟨gb189, 0, none⟩ = some (.int .i64 (wrap64 (rd yc_ 0))) ∧ w'.cell? ⟨gb189, 1, none⟩ = some (.int .i64 t182) ∧ w'.cell? ⟨gb189, 2, none⟩ = some (.int .i64 (wrap64 (rd yc_ 3))) ∧ w'.cell? ⟨gb189, 3, none⟩ = some (.bool ((Int.tmod (rd yc_ 4) 2) == 1)) ∧ w'.cell? ⟨gb189, 4, none⟩ = some (.int .i64 t185) ∧ w'.cell? ⟨gb189, 5, none⟩ = some (.bool (((Int.tdiv (rd yc_ 4) 2) % 2) == 1)) ∧ w'.cell? ⟨gb189, 6, none⟩ = some (.int .i64 t187) ∧ w'.cell? ⟨gb189, 7, none⟩ = some (.int .i64 t188) ∧ (convert 22 9 (.slice (some ad181) yc_.length (c0 - x5_1.toNat))).run Try.prog w' = .ok (.string (strOfNums yc_)) w') (ds := []) #[false, false, false, false, false, false, false, false, false, false, false] (by kernel_rfl) rfl rfl ⟨(blk_cell BK189.out 0).trans rfl, (blk_cell BK189.out 1).trans rfl, (blk_cell BK189.out 2).trans rfl, (blk_cell BK189.out 3).trans rfl, (blk_cell BK189.out 4).trans rfl, (blk_cell BK189.out 5).trans rfl, (blk_cell BK189.out 6).trans rfl, (blk_cell BK189.out 7).trans rfl, Kd.C_string (P := Try.prog) (A := (some ad181)) (c := (c0 - x5_1.toNat)) Try.underlying22 Try.underlying5 Try.underlying9 (Kd.C_below HR180.out HB.out)⟩ (fun hHeld => ?_); refine with_tabW spec_l3Recs.tab6 spec_l3Recs.bits6 (fun HT_ HW_ => ?_)
          generalize w32.drew = w33 at HO_4 BK189 HB hHeld ⊢
          refine take_ (i := 0) (N := some 47) (v := ?_) (a' := ?_) #[true, false, false, false, false, false, false, false, false, false, false] rfl rfl (take_ofW HT_.out HW_.out (by kernel_rfl)) (fun _ _ _ h => h) (Or.inl ⟨by rfl, ?_⟩) hHeld ?_ ?_
          rotate_left
          ·rintro w' ⟨s0, s1, s2, s3, s4, s5, s6, s7, s8⟩
           go_simp
           with_reducible rfl
          rotate_left
          ·simp only [Act.put, List.setIfInBounds_toArray, List.set_cons_zero, List.set_cons_succ, i64_w, i32_w]
           rfl
          refine one_ (i := 1) (N := some 48) #[true, true, false, false, false, false, false, false, false, false, false] rfl rfl (one_of HT_.out (by kernel_rfl)) (by decide) (fun K hK => ?_)
          refine goes_ Try.func52 (by kernel_rfl) rfl #[.agg #[.int .i64 (wrap64 (rd yc_ 0)), .int .i64 t182, .int .i64 (wrap64 (rd yc_ 3)), .bool ((Int.tmod (rd yc_ 4) 2) == 1), .int .i64 t185, .bool (((Int.tdiv (rd yc_ 4) 2) % 2) == 1), .int .i64 t187, .int .i64 t188]] (by rfl) rfl rfl (by (try simp only [List.map_toArray, List.map_cons, List.map_nil]); first | done | rfl | (simp only [List.length_drop, List.length_take]; rfl)) ?_
          with_reducible refine (spec_RecFault.calls k1 (wrap64 (rd yc_ 0)) t182 (wrap64 (rd yc_ 3)) ((Int.tmod (rd yc_ 4) 2) == 1) t185 (((Int.tdiv (rd yc_ 4) 2) % 2) == 1) t187 t188 t190 _ A15.out).mono ?_
          rintro e w34 ⟨rfl, hb⟩
          refine ⟨_, rfl, ?_⟩
          have n0_ := Aside0.mk (Kd.R_below (by (with_reducible repeat (first | apply Kd.R_alloc | apply Kd.R_drewN | apply Kd.R_drew)); exact HO_4.out) hb)
          have n1_ := Aside0.mk (blk_below (g := gb189) (o := .cells #[.int .i64 (wrap64 (rd yc_ 0)), .int .i64 t182, .int .i64 (wrap64 (rd yc_ 3)), .bool ((Int.tmod (rd yc_ 4) 2) == 1), .int .i64 t185, .bool (((Int.tdiv (rd yc_ 4) 2) % 2) == 1), .int .i64 t187, .int .i64 t188] 48 (0, 0)) (by (with_reducible repeat (first | refine blk_drewN ?_ _ | refine blk_drew ?_ | refine blk_alloc ?_ _)); exact BK189.out) hb)
          have n2_ := Aside0.mk (below_step (by repeat (first | (with_reducible first | exact HB.out | apply below_alloc | apply pw_below_drewN | apply below_drew1 | refine below_set ?_ GE189.out) | exact HB.out)) hb)
          clear HO_4
          clear BK189
          clear HB
          have HO_4 := n0_
          have BK189 := n1_
          have HB := n2_
          clear n0_ n1_ n2_
          (try clear hb)
          (try clear hb2)
          (try clear hk)
          (try clear hi)
          refine hK.out _ _ ⟨(blk_cell BK189.out 0).trans rfl, (blk_cell BK189.out 1).trans rfl, (blk_cell BK189.out 2).trans rfl, (blk_cell BK189.out 3).trans rfl, (blk_cell BK189.out 4).trans rfl, (blk_cell BK189.out 5).trans rfl, (blk_cell BK189.out 6).trans rfl, (blk_cell BK189.out 7).trans rfl, Kd.C_string (P := Try.prog) (A := (some ad181)) (c := (c0 - x5_1.toNat)) Try.underlying22 Try.underlying5 Try.underlying9 (Kd.C_below HR180.out HB.out)⟩ (fun hHeld => ?_)
          clear hK K
          refine norm_ (a' := ?_) ?_ ?_
          rotate_left
          ·show Act.put _ (some 48) _ = _
           simp only [Act.put, List.setIfInBounds_toArray, List.set_cons_zero, List.set_cons_succ, i64_w, i32_w]
           rfl
          refine pure_ (i := 2) (N := some 49) (v := ?_) (a' := ?_) #[true, true, true, false, false, false, false, false, false, false, false] rfl rfl (any_of HT_.out (by kernel_rfl)) (fun _ _ _ h => h) (Or.inl ⟨by rfl, ?_⟩) ?_ ?_
          rotate_left
          ·intro w'
           go_simp
           with_reducible rfl
          rotate_left
          ·simp only [Act.put, List.setIfInBounds_toArray, List.set_cons_zero, List.set_cons_succ, i64_w, i32_w]
           rfl
          refine pure_ (i := 3) (N := some 50) (v := ?_) (a' := ?_) #[true, true, true, true, false, false, false, false, false, false, false] rfl rfl (any_of HT_.out (by kernel_rfl)) (fun _ _ _ h => h) (Or.inl ⟨by rfl, ?_⟩) ?_ ?_
          rotate_left
          ·intro w'
           go_simp
           with_reducible rfl
          rotate_left
          ·simp only [Act.put, List.setIfInBounds_toArray, List.set_cons_zero, List.set_cons_succ, i64_w, i32_w]
           rfl
          refine pure_ (i := 7) (N := some 54) (v := ?_) (a' := ?_) #[true, true, true, true, false, false, false, true, false, false, false] rfl rfl (any_of HT_.out (by kernel_rfl)) (fun _ _ _ h => h) (Or.inl ⟨by rfl, ?_⟩) ?_ ?_
          rotate_left
          ·intro w'
           go_simp
           with_reducible rfl
          rotate_left
          ·simp only [Act.put, List.setIfInBounds_toArray, List.set_cons_zero, List.set_cons_succ, i64_w, i32_w]
           rfl
          refine take_ (i := 8) (N := some 55) (v := ?_) (a' := ?_) #[true, true, true, true, false, false, false, true, true, false, false] rfl rfl (take_ofW HT_.out HW_.out (by kernel_rfl)) (fun _ _ _ h => h) (Or.inl ⟨by rfl, ?_⟩) hHeld ?_ ?_
          rotate_left
          ·rintro w' ⟨s0, s1, s2, s3, s4, s5, s6, s7, s8⟩
           go_simp
           with_reducible rfl
          rotate_left
          ·simp only [Act.put, List.setIfInBounds_toArray, List.set_cons_zero, List.set_cons_succ, i64_w, i32_w]
           rfl
          refine take_ (i := 4) (N := some 51) (v := ?_) (a' := ?_) #[true, true, true, true, true, false, false, true, true, false, false] rfl rfl (take_ofW HT_.out HW_.out (by kernel_rfl)) (fun _ _ _ h => h) (Or.inl ⟨by rfl, ?_⟩) hHeld ?_ ?_
          rotate_left
          ·rintro w' ⟨s0, s1, s2, s3, s4, s5, s6, s7, s8⟩
           go_simp
           with_reducible rfl
          rotate_left
          ·simp only [Act.put, List.setIfInBounds_toArray, List.set_cons_zero, List.set_cons_succ, i64_w, i32_w]
           rfl
          refine one_ (i := 5) (N := some 52) #[true, true, true, true, true, true, false, true, true, false, false] rfl rfl (one_of HT_.out (by kernel_rfl)) (by decide) (fun K hK => ?_)
          refine goes_ Try.func80 (by kernel_rfl) rfl #[.agg #[.int .i64 (wrap64 (rd yc_ 0)), .int .i64 t182, .int .i64 (wrap64 (rd yc_ 3)), .bool ((Int.tmod (rd yc_ 4) 2) == 1), .int .i64 t185, .bool (((Int.tdiv (rd yc_ 4) 2) % 2) == 1), .int .i64 t187, .int .i64 t188]] (by rfl) rfl rfl (by (try simp only [List.map_toArray, List.map_cons, List.map_nil]); first | done | rfl | (simp only [List.length_drop, List.length_take]; rfl)) ?_
          with_reducible refine (spec_l3Pack.calls k1 (wrap64 (rd yc_ 0)) t182 (wrap64 (rd yc_ 3)) ((Int.tmod (rd yc_ 4) 2) == 1) t185 (((Int.tdiv (rd yc_ 4) 2) % 2) == 1) t187 t188 t191 _ A17.out).mono ?_
          rintro e w35 ⟨v192, rfl, ho0, hb⟩
          refine ⟨_, rfl, ?_⟩
          have n0_ := Aside0.mk (Kd.R_below (by (with_reducible repeat (first | apply Kd.R_alloc | apply Kd.R_drewN | apply Kd.R_drew)); exact HO_4.out) hb)
          have n1_ := Aside0.mk (Kd.R_lower ho0 (below_size (by repeat (first | (with_reducible first | exact HB.out | apply below_alloc | apply pw_below_drewN | apply below_drew1 | refine below_set ?_ GE189.out) | exact HB.out))))
          have n2_ := Aside0.mk (blk_below (g := gb189) (o := .cells #[.int .i64 (wrap64 (rd yc_ 0)), .int .i64 t182, .int .i64 (wrap64 (rd yc_ 3)), .bool ((Int.tmod (rd yc_ 4) 2) == 1), .int .i64 t185, .bool (((Int.tdiv (rd yc_ 4) 2) % 2) == 1), .int .i64 t187, .int .i64 t188] 48 (0, 0)) (by (with_reducible repeat (first | refine blk_drewN ?_ _ | refine blk_drew ?_ | refine blk_alloc ?_ _)); exact BK189.out) hb)
          have n3_ := Aside0.mk (below_step (by repeat (first | (with_reducible first | exact HB.out | apply below_alloc | apply pw_below_drewN | apply below_drew1 | refine below_set ?_ GE189.out) | exact HB.out)) hb)
          clear HO_4
          clear BK189
          clear HB
          have HO_4 := n0_
          have HO193 := n1_
          have BK189 := n2_
          have HB := n3_
          clear n0_ n1_ n2_ n3_
          (try clear hb)
          (try clear hb2)
          (try clear hk)
          (try clear hi)
          (try clear ho0)
          have hcv37 := Kd.C_string (P := Try.prog) (A := (some ad181)) (c := (c0 - x5_1.toNat)) Try.underlying22 Try.underlying5 Try.underlying9 (Kd.C_below HR180.out HB.out)
          refine hK.out _ _ ⟨(blk_cell BK189.out 0).trans rfl, (blk_cell BK189.out 1).trans rfl, (blk_cell BK189.out 2).trans rfl, (blk_cell BK189.out 3).trans rfl, (blk_cell BK189.out 4).trans rfl, (blk_cell BK189.out 5).trans rfl, (blk_cell BK189.out 6).trans rfl, (blk_cell BK189.out 7).trans rfl, Kd.C_string (P := Try.prog) (A := (some ad181)) (c := (c0 - x5_1.toNat)) Try.underlying22 Try.underlying5 Try.underlying9 (Kd.C_below HR180.out HB.out)⟩ (fun hHeld => ?_)
          clear hK K
          refine norm_ (a' := ?_) ?_ ?_
          rotate_left
          ·show Act.put _ (some 52) _ = _
           simp only [Act.put, List.setIfInBounds_toArray, List.set_cons_zero, List.set_cons_succ, i64_w, i32_w]
           rfl
          refine one_ (i := 6) (N := some 53) #[true, true, true, true, true, true, true, true, true, false, false] rfl rfl (one_of HT_.out (by kernel_rfl)) (by decide) (fun K hK => ?_)
          have hcv36 := own_string (P := Try.prog) Try.underlying22 Try.underlying5 Try.underlying9 (Kd.own_of_R HO193.out)
          refine value_ (w1 := ?_) (v := ?_) (by rfl) rfl ?_ ?_
          rotate_left 2
          ·go_simp
           constructor
           ·rfl
           ·rfl
          clear hcv36
          refine hK.out _ _ ⟨(blk_cell BK189.out 0).trans rfl, (blk_cell BK189.out 1).trans rfl, (blk_cell BK189.out 2).trans rfl, (blk_cell BK189.out 3).trans rfl, (blk_cell BK189.out 4).trans rfl, (blk_cell BK189.out 5).trans rfl, (blk_cell BK189.out 6).trans rfl, (blk_cell BK189.out 7).trans rfl, Kd.C_string (P := Try.prog) (A := (some ad181)) (c := (c0 - x5_1.toNat)) Try.underlying22 Try.underlying5 Try.underlying9 (Kd.C_below HR180.out HB.out)⟩ (fun hHeld => ?_)
          clear hK K
          refine norm_ (a' := ?_) ?_ ?_
          rotate_left
          ·show Act.put _ (some 53) _ = _
           simp only [Act.put, List.setIfInBounds_toArray, List.set_cons_zero, List.set_cons_succ, i64_w, i32_w]
           rfl
          refine pure_ (i := 9) (N := some 56) (v := ?_) (a' := ?_) #[true, true, true, true, true, true, true, true, true, true, false] rfl rfl (any_of HT_.out (by kernel_rfl)) (fun _ _ _ h => h) (Or.inl ⟨by rfl, ?_⟩) ?_ ?_
          rotate_left
          ·intro w'
           go_simp
           with_reducible rfl
          rotate_left
          ·simp only [Act.put, List.setIfInBounds_toArray, List.set_cons_zero, List.set_cons_succ, i64_w, i32_w]
           rfl
          refine pure_ (i := 10) (N := some 57) (v := ?_) (a' := ?_) #[true, true, true, true, true, true, true, true, true, true, true] rfl rfl (any_of HT_.out (by kernel_rfl)) (fun _ _ _ h => h) (Or.inl ⟨by rfl, ?_⟩) ?_ ?_
          rotate_left
          ·intro w'
           go_simp
           with_reducible rfl
          rotate_left
          ·simp only [Act.put, List.setIfInBounds_toArray, List.set_cons_zero, List.set_cons_succ, i64_w, i32_w]
           rfl
          refine done_ (done_of HT_.out (by kernel_rfl)) ?_
          have H := HX_.out
          clear HX_
          by_cases c18 : (strOfNums t191).toList = (strOfNums yc_).toList
          ·rw [if_pos c18] at H
           have c18b0 : ((strOfNums t191).toList == (strOfNums yc_).toList) = true := beq_iff_eq.mpr c18
           have c18b1 : ((strOfNums t191).toList != (strOfNums yc_).toList) = false := bne_eq_false_iff_eq.mpr c18
           have c18b2 : (!((strOfNums t191).toList == (strOfNums yc_).toList)) = false := by rw [c18b0]; rfl
           (try rw [c18b2])
           clear c18
           by_cases c19 : x4_1.length < 2199023255552
           ·rw [if_pos c19] at H
            have LMc19 := Aside0.mk c19
            clear c19
            obtain ⟨y194, hy194⟩ : ∃ y_ : List (S48), y_ = (x4_1 ++ [(⟨wrap64 (rd yc_ 0), t182, wrap64 (rd yc_ 3), ((Int.tmod (rd yc_ 4) 2) == 1), t185, (((Int.tdiv (rd yc_ 4) 2) % 2) == 1), t187, t188⟩ : S48)]) := ⟨_, rfl⟩
            replace H : (spec_l3Recs.l0 k1 l0 y194 (wrap64 (x5_1 + 13))) = some (r1, r2) := by first | (rw [hy194]; with_reducible exact H) | (have H2_ := (Option.bind_some _ _).symm.trans H; rw [hy194]; with_reducible exact H2_) | (have H2_ := (Option.bind_some _ _).symm.trans H; with_reducible exact H2_) | with_reducible exact H | (rw [hy194]; exact H) | exact H
            have Ny194 := Aside0.mk hy194
            clear hy194
            have H' := Aside0.mk H
            clear H
            obtain ⟨hcz39_0, hcz39_1, hcz39_2, hcz39_3, hcz39_4, hcz39_5, hcz39_6, hcz39_7, hfz39_0, hfz39_1, hfz39_2, hfz39_3, hfz39_4, hfz39_5, hfz39_6, hfz39_7⟩ := Go.Proofs.Ythagppmaofcllaa.Lv.blks8 BK189.out
            try go_wp2_with (first | ((with_reducible refine gate_builtin (b := .append) (xs := #[.tmp 58, .tmp 60]) rfl ?_); at_builtin; refine Kd.R_append k48 (w0 := w) w.heap.size rfl (.tmp 58) (.tmp 60) 37 48 (.agg #[(.int .i64 0), (.int .i64 0), (.int .i64 0), (.bool false), (.int .i64 0), (.bool false), (.int .i64 0), (.int .i64 0)]) 64 rfl Try.underlying37 info48 rfl (by decide) (by omega) u4 x4_1 (⟨wrap64 (rd yc_ 0), t182, wrap64 (rd yc_ 3), ((Int.tmod (rd yc_ 4) 2) == 1), t185, (((Int.tdiv (rd yc_ 4) 2) % 2) == 1), t187, t188⟩ : S48) [.int .i64 (wrap64 (rd yc_ 0)), .int .i64 t182, .int .i64 (wrap64 (rd yc_ 3)), .bool ((Int.tmod (rd yc_ 4) 2) == 1), .int .i64 t185, .bool (((Int.tdiv (rd yc_ 4) 2) % 2) == 1), .int .i64 t187, .int .i64 t188] (fun k_ => k_ ≠ gb189) (fun _ => False) rfl rfl ?aP (fun _ hk => hk.elim) ?aF ?aO ?aB ?aS ?aL ?_; (case aP => exact k48_mkM _ _ _ (⟨wrap64 (rd yc_ 0), t182, wrap64 (rd yc_ 3), ((Int.tmod (rd yc_ 4) 2) == 1), t185, (((Int.tdiv (rd yc_ 4) 2) % 2) == 1), t187, t188⟩ : S48)); (case aB => exact (by repeat (first | (with_reducible first | exact HB.out | apply below_alloc | apply pw_below_drewN | apply below_drew1 | refine below_set ?_ GE189.out) | exact HB.out))); (case aF => exact (fun k_ hk => Kd.freshB (g := gb189) (o := .cells #[.int .i64 (wrap64 (rd yc_ 0)), .int .i64 t182, .int .i64 (wrap64 (rd yc_ 3)), .bool ((Int.tmod (rd yc_ 4) 2) == 1), .int .i64 t185, .bool (((Int.tdiv (rd yc_ 4) 2) % 2) == 1), .int .i64 t187, .int .i64 t188] 48 (0, 0)) (by (with_reducible repeat (first | refine blk_drewN ?_ _ | refine blk_drew ?_ | refine blk_alloc ?_ _)); exact BK189.out) k_ hk)); (case aO => exact (by (with_reducible repeat (first | apply Kd.R_alloc | apply Kd.R_drewN | apply Kd.R_drew)); exact HO_4.out)); (case aS => exact (below_size (by repeat (first | (with_reducible first | exact HB.out | apply below_alloc | apply pw_below_drewN | apply below_drew1 | refine below_set ?_ GE189.out) | exact HB.out)))); (case aL => have := LMc19.out; omega); intro v195 w40 ho hb hg hat; rw [← Ny194.out] at ho; have n0_ := Aside0.mk (blk_grown (g := gb189) (o := .cells #[.int .i64 (wrap64 (rd yc_ 0)), .int .i64 t182, .int .i64 (wrap64 (rd yc_ 3)), .bool ((Int.tmod (rd yc_ 4) 2) == 1), .int .i64 t185, .bool (((Int.tdiv (rd yc_ 4) 2) % 2) == 1), .int .i64 t187, .int .i64 t188] 48 (0, 0)) (by (with_reducible repeat (first | refine blk_drewN ?_ _ | refine blk_drew ?_ | refine blk_alloc ?_ _)); exact BK189.out) hg (Kd.R_away HO_4.out (fun _ hk => hk))); have n1_ := Aside0.mk (Kd.R_over' (by (with_reducible repeat (first | apply Kd.R_alloc | apply Kd.R_drewN | apply Kd.R_drew)); exact HO193.out) (Kd.R_typed (by (with_reducible repeat (first | apply Kd.R_alloc | apply Kd.R_drewN | apply Kd.R_drew)); exact HO_4.out)) (by decide) hg); have n2_ := Aside0.mk (hb); have n3_ := Aside0.mk (ho); clear BK189; clear HO193; clear HB; clear HO_4; have BK189 := n0_; have HO193 := n1_; have HB := n2_; have HO196 := n3_; clear n0_ n1_ n2_ n3_; clear ho hb hg hat))
            go_roundg k1
            case measure => have := HK1.out; omega
            case rel => exact ⟨(y194), (wrap64 (x5_1 + 13)), (by first | rfl | (simp; done) | (simp [*]; done)), H', ⟨by have := HK1.out; omega⟩, ⟨by (with_reducible repeat (first | apply Kd.R_alloc | apply Kd.R_drewN | apply Kd.R_drew)); exact Kd.R_mono HO196.out (fun _ hk => trivial)⟩, ⟨by repeat (first | (with_reducible first | exact HB.out | apply below_alloc | apply pw_below_drewN | apply below_drew1 | refine below_set ?_ GE189.out) | exact HB.out)⟩⟩
           ·rw [if_neg c19] at H
            exact absurd H (by simp)
          ·rw [if_neg c18] at H
           have c18b0 : ((strOfNums t191).toList == (strOfNums yc_).toList) = false := beq_eq_false_iff_ne.mpr c18
           have c18b1 : ((strOfNums t191).toList != (strOfNums yc_).toList) = true := bne_iff_ne.mpr c18
           have c18b2 : (!((strOfNums t191).toList == (strOfNums yc_).toList)) = true := by rw [c18b0]; rfl
           (try rw [c18b2])
           simp only [Option.some.injEq, Prod.mk.injEq] at H
           obtain ⟨rfl, rfl⟩ := H
           try go_wp2
           go_ret2
           exact ⟨_, by first | rfl | (simp [errW_none, errW_some] <;> rfl) | (simp [*, errW_none, errW_some] <;> rfl), by (with_reducible repeat (first | apply Kd.R_alloc | apply Kd.R_drewN | apply Kd.R_drew)); exact Kd.R_mono HO_4.out (fun _ hk => trivial), by repeat (first | (with_reducible first | exact HB.out | apply below_alloc | apply pw_below_drewN | apply below_drew1 | refine below_set ?_ GE189.out) | exact HB.out)⟩
         ·rw [if_neg c16] at H
          have c16b0 : (t190 == 0) = false := beq_eq_false_iff_ne.mpr c16
          have c16b1 : (t190 != 0) = true := bne_iff_ne.mpr c16
          simp only [Option.some.injEq, Prod.mk.injEq] at H
          obtain ⟨rfl, rfl⟩ := H
          try go_wp2
          have n0_ : Aside0 (Kd.R k48 48 ((((((((w23.setCell ⟨gb189, 0, none⟩ (.int .i64 (wrap64 (rd yc_ 0)))).setCell ⟨gb189, 1, none⟩ (.int .i64 t182)).setCell ⟨gb189, 2, none⟩ (.int .i64 (wrap64 (rd yc_ 3)))).setCell ⟨gb189, 3, none⟩ (.bool ((Int.tmod (rd yc_ 4) 2) == 1))).setCell ⟨gb189, 4, none⟩ (.int .i64 t185)).setCell ⟨gb189, 5, none⟩ (.bool (((Int.tdiv (rd yc_ 4) 2) % 2) == 1))).setCell ⟨gb189, 6, none⟩ (.int .i64 t187)).setCell ⟨gb189, 7, none⟩ (.int .i64 t188)) w.heap.size (fun k_ => k_ ≠ gb189) u4 x4_1) := ⟨by (with_reducible repeat (first | apply Kd.R_alloc | apply Kd.R_drewN | apply Kd.R_drew)); exact Kd.R_mono (Kd.R_far (p := ⟨gb189, 7, none⟩) (Kd.R_far (p := ⟨gb189, 6, none⟩) (Kd.R_far (p := ⟨gb189, 5, none⟩) (Kd.R_far (p := ⟨gb189, 4, none⟩) (Kd.R_far (p := ⟨gb189, 3, none⟩) (Kd.R_far (p := ⟨gb189, 2, none⟩) (Kd.R_far (p := ⟨gb189, 1, none⟩) (Kd.R_far (p := ⟨gb189, 0, none⟩) (Kd.R_mono HO_4.out (fun k_ hk => (⟨hk, hk⟩ : _ ∧ k_ ≠ gb189))) (fun _ hk => hk.2) (.int .i64 (wrap64 (rd yc_ 0)))) (fun _ hk => hk.2) (.int .i64 t182)) (fun _ hk => hk.2) (.int .i64 (wrap64 (rd yc_ 3)))) (fun _ hk => hk.2) (.bool ((Int.tmod (rd yc_ 4) 2) == 1))) (fun _ hk => hk.2) (.int .i64 t185)) (fun _ hk => hk.2) (.bool (((Int.tdiv (rd yc_ 4) 2) % 2) == 1))) (fun _ hk => hk.2) (.int .i64 t187)) (fun _ hk => hk.2) (.int .i64 t188)) (fun _ hk => hk.1)⟩
          have n1_ : Aside0 (((((((((w23.setCell ⟨gb189, 0, none⟩ (.int .i64 (wrap64 (rd yc_ 0)))).setCell ⟨gb189, 1, none⟩ (.int .i64 t182)).setCell ⟨gb189, 2, none⟩ (.int .i64 (wrap64 (rd yc_ 3)))).setCell ⟨gb189, 3, none⟩ (.bool ((Int.tmod (rd yc_ 4) 2) == 1))).setCell ⟨gb189, 4, none⟩ (.int .i64 t185)).setCell ⟨gb189, 5, none⟩ (.bool (((Int.tdiv (rd yc_ 4) 2) % 2) == 1))).setCell ⟨gb189, 6, none⟩ (.int .i64 t187)).setCell ⟨gb189, 7, none⟩ (.int .i64 t188)).heap[gb189]? = some (.cells #[.int .i64 (wrap64 (rd yc_ 0)), .int .i64 t182, .int .i64 (wrap64 (rd yc_ 3)), .bool ((Int.tmod (rd yc_ 4) 2) == 1), .int .i64 t185, .bool (((Int.tdiv (rd yc_ 4) 2) % 2) == 1), .int .i64 t187, .int .i64 t188] 48 (0, 0))) := ⟨by (with_reducible repeat (first | refine blk_drewN ?_ _ | refine blk_drew ?_ | refine blk_alloc ?_ _)); refine blk_put (cs := #[.int .i64 (wrap64 (rd yc_ 0)), .int .i64 t182, .int .i64 (wrap64 (rd yc_ 3)), .bool ((Int.tmod (rd yc_ 4) 2) == 1), .int .i64 t185, .bool (((Int.tdiv (rd yc_ 4) 2) % 2) == 1), .int .i64 t187, .int .i64 0]) ?_ 7 _ rfl; (with_reducible repeat (first | refine blk_drewN ?_ _ | refine blk_drew ?_ | refine blk_alloc ?_ _)); refine blk_put (cs := #[.int .i64 (wrap64 (rd yc_ 0)), .int .i64 t182, .int .i64 (wrap64 (rd yc_ 3)), .bool ((Int.tmod (rd yc_ 4) 2) == 1), .int .i64 t185, .bool (((Int.tdiv (rd yc_ 4) 2) % 2) == 1), .int .i64 0, .int .i64 0]) ?_ 6 _ rfl; (with_reducible repeat (first | refine blk_drewN ?_ _ | refine blk_drew ?_ | refine blk_alloc ?_ _)); refine blk_put (cs := #[.int .i64 (wrap64 (rd yc_ 0)), .int .i64 t182, .int .i64 (wrap64 (rd yc_ 3)), .bool ((Int.tmod (rd yc_ 4) 2) == 1), .int .i64 t185, .bool false, .int .i64 0, .int .i64 0]) ?_ 5 _ rfl; (with_reducible repeat (first | refine blk_drewN ?_ _ | refine blk_drew ?_ | refine blk_alloc ?_ _)); refine blk_put (cs := #[.int .i64 (wrap64 (rd yc_ 0)), .int .i64 t182, .int .i64 (wrap64 (rd yc_ 3)), .bool ((Int.tmod (rd yc_ 4) 2) == 1), .int .i64 0, .bool false, .int .i64 0, .int .i64 0]) ?_ 4 _ rfl; (with_reducible repeat (first | refine blk_drewN ?_ _ | refine blk_drew ?_ | refine blk_alloc ?_ _)); refine blk_put (cs := #[.int .i64 (wrap64 (rd yc_ 0)), .int .i64 t182, .int .i64 (wrap64 (rd yc_ 3)), .bool false, .int .i64 0, .bool false, .int .i64 0, .int .i64 0]) ?_ 3 _ rfl; (with_reducible repeat (first | refine blk_drewN ?_ _ | refine blk_drew ?_ | refine blk_alloc ?_ _)); refine blk_put (cs := #[.int .i64 (wrap64 (rd yc_ 0)), .int .i64 t182, .int .i64 0, .bool false, .int .i64 0, .bool false, .int .i64 0, .int .i64 0]) ?_ 2 _ rfl; (with_reducible repeat (first | refine blk_drewN ?_ _ | refine blk_drew ?_ | refine blk_alloc ?_ _)); refine blk_put (cs := #[.int .i64 (wrap64 (rd yc_ 0)), .int .i64 0, .int .i64 0, .bool false, .int .i64 0, .bool false, .int .i64 0, .int .i64 0]) ?_ 1 _ rfl; (with_reducible repeat (first | refine blk_drewN ?_ _ | refine blk_drew ?_ | refine blk_alloc ?_ _)); refine blk_put (cs := #[.int .i64 0, .int .i64 0, .int .i64 0, .bool false, .int .i64 0, .bool false, .int .i64 0, .int .i64 0]) ?_ 0 _ rfl; (with_reducible repeat (first | refine blk_drewN ?_ _ | refine blk_drew ?_ | refine blk_alloc ?_ _)); exact BK189.out⟩
          have n2_ : Aside0 (Below w.heap.size w ((((((((w23.setCell ⟨gb189, 0, none⟩ (.int .i64 (wrap64 (rd yc_ 0)))).setCell ⟨gb189, 1, none⟩ (.int .i64 t182)).setCell ⟨gb189, 2, none⟩ (.int .i64 (wrap64 (rd yc_ 3)))).setCell ⟨gb189, 3, none⟩ (.bool ((Int.tmod (rd yc_ 4) 2) == 1))).setCell ⟨gb189, 4, none⟩ (.int .i64 t185)).setCell ⟨gb189, 5, none⟩ (.bool (((Int.tdiv (rd yc_ 4) 2) % 2) == 1))).setCell ⟨gb189, 6, none⟩ (.int .i64 t187)).setCell ⟨gb189, 7, none⟩ (.int .i64 t188))) := ⟨by repeat (first | (with_reducible first | exact HB.out | apply below_alloc | apply pw_below_drewN | apply below_drew1 | refine below_set ?_ GE189.out) | exact HB.out)⟩
          (try clear HO_4)
          (try clear BK189)
          (try clear HB)
          generalize ((((((((w23.setCell ⟨gb189, 0, none⟩ (.int .i64 (wrap64 (rd yc_ 0)))).setCell ⟨gb189, 1, none⟩ (.int .i64 t182)).setCell ⟨gb189, 2, none⟩ (.int .i64 (wrap64 (rd yc_ 3)))).setCell ⟨gb189, 3, none⟩ (.bool ((Int.tmod (rd yc_ 4) 2) == 1))).setCell ⟨gb189, 4, none⟩ (.int .i64 t185)).setCell ⟨gb189, 5, none⟩ (.bool (((Int.tdiv (rd yc_ 4) 2) % 2) == 1))).setCell ⟨gb189, 6, none⟩ (.int .i64 t187)).setCell ⟨gb189, 7, none⟩ (.int .i64 t188)) = w72 at n0_ n1_ n2_ ⊢
          have HO_4 := n0_
          have BK189 := n1_
          have HB := n2_
          clear n0_ n1_ n2_
          have n0_ := Aside0.mk (Kd.R_drew HO_4.out)
          have n1_ := Aside0.mk (blk_drew BK189.out)
          have n2_ := Aside0.mk (below_drew1 HB.out)
          clear HO_4
          clear BK189
          clear HB
          have HO_4 := n0_
          have BK189 := n1_
          have HB := n2_
          clear n0_ n1_ n2_
          refine start_ (n := 11) (S := fun w' => w'.cell? ⟨gb189, 0, none⟩ = some (.int .i64 (wrap64 (rd yc_ 0))) ∧ w'.cell? ⟨gb189, 1, none⟩ = some (.int .i64 t182) ∧ w'.cell? ⟨gb189, 2, none⟩ = some (.int .i64 (wrap64 (rd yc_ 3))) ∧ w'.cell? ⟨gb189, 3, none⟩ = some (.bool ((Int.tmod (rd yc_ 4) 2) == 1)) ∧ w'.cell? ⟨gb189, 4, none⟩ = some (.int .i64 t185) ∧ w'.cell? ⟨gb189, 5, none⟩ = some (.bool (((Int.tdiv (rd yc_ 4) 2) % 2) == 1)) ∧ w'.cell? ⟨gb189, 6, none⟩ = some (.int .i64 t187) ∧ w'.cell? ⟨gb189, 7, none⟩ = some (.int .i64 t188)) (ds := []) #[false, false, false, false, false, false, false, false, false, false, false] (by kernel_rfl) rfl rfl ⟨(blk_cell BK189.out 0).trans rfl, (blk_cell BK189.out 1).trans rfl, (blk_cell BK189.out 2).trans rfl, (blk_cell BK189.out 3).trans rfl, (blk_cell BK189.out 4).trans rfl, (blk_cell BK189.out 5).trans rfl, (blk_cell BK189.out 6).trans rfl, (blk_cell BK189.out 7).trans rfl⟩ (fun hHeld => ?_); refine with_tabW spec_l3Recs.tab6 spec_l3Recs.bits6 (fun HT_ HW_ => ?_)
          generalize w72.drew = w73 at HO_4 BK189 HB hHeld ⊢
          refine take_ (i := 0) (N := some 47) (v := ?_) (a' := ?_) #[true, false, false, false, false, false, false, false, false, false, false] rfl rfl (take_ofW HT_.out HW_.out (by kernel_rfl)) (fun _ _ _ h => h) (Or.inl ⟨by rfl, ?_⟩) hHeld ?_ ?_
          rotate_left
          ·rintro w' ⟨s0, s1, s2, s3, s4, s5, s6, s7⟩
           go_simp
           with_reducible rfl
          rotate_left
          ·simp only [Act.put, List.setIfInBounds_toArray, List.set_cons_zero, List.set_cons_succ, i64_w, i32_w]
           rfl
          refine one_ (i := 1) (N := some 48) #[true, true, false, false, false, false, false, false, false, false, false] rfl rfl (one_of HT_.out (by kernel_rfl)) (by decide) (fun K hK => ?_)
          refine goes_ Try.func52 (by kernel_rfl) rfl #[.agg #[.int .i64 (wrap64 (rd yc_ 0)), .int .i64 t182, .int .i64 (wrap64 (rd yc_ 3)), .bool ((Int.tmod (rd yc_ 4) 2) == 1), .int .i64 t185, .bool (((Int.tdiv (rd yc_ 4) 2) % 2) == 1), .int .i64 t187, .int .i64 t188]] (by rfl) rfl rfl (by (try simp only [List.map_toArray, List.map_cons, List.map_nil]); first | done | rfl | (simp only [List.length_drop, List.length_take]; rfl)) ?_
          with_reducible refine (spec_RecFault.calls k1 (wrap64 (rd yc_ 0)) t182 (wrap64 (rd yc_ 3)) ((Int.tmod (rd yc_ 4) 2) == 1) t185 (((Int.tdiv (rd yc_ 4) 2) % 2) == 1) t187 t188 t190 _ A15.out).mono ?_
          rintro e w74 ⟨rfl, hb⟩
          refine ⟨_, rfl, ?_⟩
          have n0_ := Aside0.mk (Kd.R_below (by (with_reducible repeat (first | apply Kd.R_alloc | apply Kd.R_drewN | apply Kd.R_drew)); exact HO_4.out) hb)
          have n1_ := Aside0.mk (blk_below (g := gb189) (o := .cells #[.int .i64 (wrap64 (rd yc_ 0)), .int .i64 t182, .int .i64 (wrap64 (rd yc_ 3)), .bool ((Int.tmod (rd yc_ 4) 2) == 1), .int .i64 t185, .bool (((Int.tdiv (rd yc_ 4) 2) % 2) == 1), .int .i64 t187, .int .i64 t188] 48 (0, 0)) (by (with_reducible repeat (first | refine blk_drewN ?_ _ | refine blk_drew ?_ | refine blk_alloc ?_ _)); exact BK189.out) hb)
          have n2_ := Aside0.mk (below_step (by repeat (first | (with_reducible first | exact HB.out | apply below_alloc | apply pw_below_drewN | apply below_drew1 | refine below_set ?_ GE189.out) | exact HB.out)) hb)
          clear HO_4
          clear BK189
          clear HB
          have HO_4 := n0_
          have BK189 := n1_
          have HB := n2_
          clear n0_ n1_ n2_
          (try clear hb)
          (try clear hb2)
          (try clear hk)
          (try clear hi)
          refine hK.out _ _ ⟨(blk_cell BK189.out 0).trans rfl, (blk_cell BK189.out 1).trans rfl, (blk_cell BK189.out 2).trans rfl, (blk_cell BK189.out 3).trans rfl, (blk_cell BK189.out 4).trans rfl, (blk_cell BK189.out 5).trans rfl, (blk_cell BK189.out 6).trans rfl, (blk_cell BK189.out 7).trans rfl⟩ (fun hHeld => ?_)
          clear hK K
          refine norm_ (a' := ?_) ?_ ?_
          rotate_left
          ·show Act.put _ (some 48) _ = _
           simp only [Act.put, List.setIfInBounds_toArray, List.set_cons_zero, List.set_cons_succ, i64_w, i32_w]
           rfl
          refine pure_ (i := 2) (N := some 49) (v := ?_) (a' := ?_) #[true, true, true, false, false, false, false, false, false, false, false] rfl rfl (any_of HT_.out (by kernel_rfl)) (fun _ _ _ h => h) (Or.inl ⟨by rfl, ?_⟩) ?_ ?_
          rotate_left
          ·intro w'
           go_simp
           with_reducible rfl
          rotate_left
          ·simp only [Act.put, List.setIfInBounds_toArray, List.set_cons_zero, List.set_cons_succ, i64_w, i32_w]
           rfl
          refine pure_ (i := 3) (N := some 50) (v := ?_) (a' := ?_) #[true, true, true, true, false, false, false, false, false, false, false] rfl rfl (any_of HT_.out (by kernel_rfl)) (fun _ _ _ h => h) (Or.inl ⟨by rfl, ?_⟩) ?_ ?_
          rotate_left
          ·intro w'
           go_simp
           with_reducible rfl
          rotate_left
          ·simp only [Act.put, List.setIfInBounds_toArray, List.set_cons_zero, List.set_cons_succ, i64_w, i32_w]
           rfl
          refine pure_ (i := 4) (N := some 51) (v := undef) (a' := ?_) #[true, true, true, true, true, false, false, false, false, false, false] rfl rfl (any_of HT_.out (by kernel_rfl)) (fun _ _ _ h => h) (Or.inr ⟨by rfl, rfl⟩) ?_ ?_
          rotate_left
          ·simp only [Act.put, List.setIfInBounds_toArray, List.set_cons_zero, List.set_cons_succ, i64_w, i32_w]
           rfl
          refine pure_ (i := 5) (N := some 52) (v := undef) (a' := ?_) #[true, true, true, true, true, true, false, false, false, false, false] rfl rfl (any_of HT_.out (by kernel_rfl)) (fun _ _ _ h => h) (Or.inr ⟨by rfl, rfl⟩) ?_ ?_
          rotate_left
          ·simp only [Act.put, List.setIfInBounds_toArray, List.set_cons_zero, List.set_cons_succ, i64_w, i32_w]
           rfl
          refine pure_ (i := 6) (N := some 53) (v := undef) (a' := ?_) #[true, true, true, true, true, true, true, false, false, false, false] rfl rfl (any_of HT_.out (by kernel_rfl)) (fun _ _ _ h => h) (Or.inr ⟨by rfl, rfl⟩) ?_ ?_
          rotate_left
          ·simp only [Act.put, List.setIfInBounds_toArray, List.set_cons_zero, List.set_cons_succ, i64_w, i32_w]
           rfl
          refine pure_ (i := 7) (N := some 54) (v := undef) (a' := ?_) #[true, true, true, true, true, true, true, true, false, false, false] rfl rfl (any_of HT_.out (by kernel_rfl)) (fun _ _ _ h => h) (Or.inr ⟨by rfl, rfl⟩) ?_ ?_
          rotate_left
          ·simp only [Act.put, List.setIfInBounds_toArray, List.set_cons_zero, List.set_cons_succ, i64_w, i32_w]
           rfl
          refine pure_ (i := 8) (N := some 55) (v := undef) (a' := ?_) #[true, true, true, true, true, true, true, true, true, false, false] rfl rfl (any_of HT_.out (by kernel_rfl)) (fun _ _ _ h => h) (Or.inr ⟨by rfl, rfl⟩) ?_ ?_
          rotate_left
          ·simp only [Act.put, List.setIfInBounds_toArray, List.set_cons_zero, List.set_cons_succ, i64_w, i32_w]
           rfl
          refine pure_ (i := 9) (N := some 56) (v := undef) (a' := ?_) #[true, true, true, true, true, true, true, true, true, true, false] rfl rfl (any_of HT_.out (by kernel_rfl)) (fun _ _ _ h => h) (Or.inr ⟨by rfl, rfl⟩) ?_ ?_
          rotate_left
          ·simp only [Act.put, List.setIfInBounds_toArray, List.set_cons_zero, List.set_cons_succ, i64_w, i32_w]
           rfl
          refine pure_ (i := 10) (N := some 57) (v := ?_) (a' := ?_) #[true, true, true, true, true, true, true, true, true, true, true] rfl rfl (any_of HT_.out (by kernel_rfl)) (fun _ _ _ h => h) (Or.inl ⟨by rfl, ?_⟩) ?_ ?_
          rotate_left
          ·intro w'
           go_simp
           with_reducible rfl
          rotate_left
          ·simp only [Act.put, List.setIfInBounds_toArray, List.set_cons_zero, List.set_cons_succ, i64_w, i32_w]
           rfl
          refine done_ (done_of HT_.out (by kernel_rfl)) ?_
          try go_wp2
          go_ret2
          exact ⟨_, by first | rfl | (simp [errW_none, errW_some] <;> rfl) | (simp [*, errW_none, errW_some] <;> rfl), by (with_reducible repeat (first | apply Kd.R_alloc | apply Kd.R_drewN | apply Kd.R_drew)); exact Kd.R_mono HO_4.out (fun _ hk => trivial), by repeat (first | (with_reducible first | exact HB.out | apply below_alloc | apply pw_below_drewN | apply below_drew1 | refine below_set ?_ GE189.out) | exact HB.out)⟩
        ·rw [if_neg c11] at H
         exact absurd H (by simp)
       ·rw [if_neg c10] at H
        exact absurd H (by simp)
      ·rw [if_neg c8] at H
       exact absurd H (by simp)
     ·rw [if_neg c6] at H
      exact absurd H (by simp)
    ·rw [if_neg c5] at H
     exact absurd H (by simp)
   ·rw [if_neg c4] at H
    have c4b0 : decide ((wrap64 (x5_1 + 13)) ≤ (l0.length : Int)) = false := decide_eq_false c4
    clear c4
    simp only [Option.some.injEq, Prod.mk.injEq] at H
    obtain ⟨rfl, rfl⟩ := H
    go_wp2
    go_ret2
    exact ⟨_, by first | rfl | (simp [errW_none, errW_some] <;> rfl) | (simp [*, errW_none, errW_some] <;> rfl), by (with_reducible repeat (first | apply Kd.R_alloc | apply Kd.R_drewN | apply Kd.R_drew)); exact HO_4.out, by repeat (first | (with_reducible first | exact HB.out | apply below_alloc | apply pw_below_drewN | apply below_drew1) | exact HB.out)⟩

end Go.Proofs.Ythagppmaofcllaa.P
