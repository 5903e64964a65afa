-- Printed by this session's own program over the kit's print (wip/tools/mp.py). Not trusted: Lean checks it.
import Derived.Test.YthagppmaofcllaaP0
import Derived.Test.YthagppmaofcllaaPCadefgh3
import Derived.Test.YthagppmaofcllaaPCall2
import Derived.Test.YthagppmaofcllaaPDadefgh0
import Derived.Test.YthagppmaofcllaaPDall0
import Derived.Test.YthagppmaofcllaaWRepsOne
import Derived.Test.YthagppmaofcllaaWTab
import Derived.Test.YthagppmaofcllaaLv
namespace Go.Proofs.Ythagppmaofcllaa.P
open Go.RowKit Go.Proofs.YthagppmaofcllaaW.PrintWords Go.Proofs.YthagppmaofcllaaW.PrintLast Go.Proofs.YthagppmaofcllaaW.PrintMore
attribute [local go_sem] max2_int min2_int max_two min_two max_three min_three max_four min_four   -- for this text's walks alone
set_option linter.unusedVariables false
set_option linter.unusedSimpArgs false

-- NEEDS Derived.Test.@N@Lv
/-! ### impl_unpack: function 51 -/
def impl_unpack.T5 : Bool × List (List Nat × List Nat) := (true, [([], []), ([0], [0]), ([1], [1]), ([], []), ([3], [3]), ([4, 2], [4]), ([], []), ([6], [6]), ([7, 5], [7]), ([], []), ([9], [9]), ([10], [10]), ([11], [11]), ([12], [12]), ([], []), ([14], [14]), ([15], [15]), ([16], [16]), ([17], [17]), ([], []), ([19], [19]), ([20, 8], [20]), ([], []), ([22], [22]), ([23, 21], [23]), ([], []), ([25], [25]), ([26, 24], [26]), ([2, 5, 8, 13, 18, 21, 24, 27], [2, 5, 8, 13, 18, 21, 24, 27]), ([], []), ([29, 28, 27, 0, 1, 2, 3, 4, 5, 6, 7, 8, 9, 10, 11, 12, 13, 14, 15, 16, 17, 18, 19, 20, 21, 22, 23, 24, 25, 26, 27, 28, 29], [28, 29])])
def impl_unpack.B5 : List Nat := [0, 1, 3, 0, 8, 31, 0, 64, 255, 0, 512, 1536, 3584, 7680, 0, 16384, 49152, 114688, 245760, 0, 524288, 1573375, 0, 4194304, 16253439, 0, 33554432, 133693951, 268435455, 0, 1073741823]
theorem impl_unpack.tab5 : rtab .any (opsOf Try.f51 5) = impl_unpack.T5 := by kernel_rfl
theorem impl_unpack.bits5 : waitsOk impl_unpack.T5.2 impl_unpack.B5 = true := by kernel_rfl
set_option maxHeartbeats 40000000 in
set_option maxRecDepth 100000 in
theorem impl_unpack.calls (k : Nat) (P0_ : Nat → Prop) (A0 : Option Addr) (c0 : Nat) (l0 : List Int) (r : List (S48)) (w : World) (hs0 : Kd.V (Kd.int .u8) 5 w w.heap.size (fun k_ => P0_ k_) (.slice A0 l0.length c0) l0) (h : impl_unpack.f k l0 = some r) :
 Calls Try.prog 51 #[.slice A0 l0.length c0] w fun e w' => ∃ v0_ : Value, e = .returned (v0_) ∧ Kd.R k48 48 w' w.heap.size (fun k_ => (w.heap.size ≤ k_)) v0_ r ∧ Below w.heap.size w w' := by
 have hu48 := Try.underlying48
 have HO0 := Aside0.mk (show Kd.V (Kd.int .u8) 5 w w.heap.size (fun k_ => (P0_ k_ ∨ w.heap.size ≤ k_)) (.slice A0 l0.length c0) l0 from Kd.V_mono hs0 (fun k_ hk => .inl hk))
 have HB := Aside0.mk (Below.refl w.heap.size w)
 have H : (impl_unpack.l0 k l0 (([] : List (S48)))) = some r := h
 clear h
 obtain ⟨y281, hy281⟩ : ∃ y_ : List (S48), y_ = (([] : List (S48))) := ⟨_, rfl⟩
 replace H : (impl_unpack.l0 k l0 y281) = some r := by first | (rw [hy281]; with_reducible exact H) | (have H2_ := (Option.bind_some _ _).symm.trans H; rw [hy281]; with_reducible exact H2_) | (have H2_ := (Option.bind_some _ _).symm.trans H; with_reducible exact H2_) | with_reducible exact H | (rw [hy281]; exact H) | exact H
 have Ny281 := Aside0.mk hy281
 clear hy281
 have H' := Aside0.mk H
 clear H
 go_enter Try.func51, Try.ntmps51
 go_wp2_with (first | ((with_reducible refine gate_dst (N := 6) rfl ?_); refine Kd.R_lit k48 _ 48 ?hg (N := 6) ?hd (xs := ([] : List (S48))) (inner := []) (ok := fun _ => True) (okp := fun _ => True) ?hr ?hp (fun _ hk => hk) trivial (Below.refl _ _) (Nat.le_refl _) (by simp) ?_; (case hd => rfl); (case hg => rfl); (case hr => first | (go_simp; done) | (go_simp; rfl)); (case hp => exact (Reps.none _ _)); intro v282 w2 ho3 hb hg_ hnew_; clear hg_ hnew_; (first | rw [← Ny281.out] at ho3 | (simp only [Int.reduceToNat] at ho3; rw [← Ny281.out] at ho3)); have n0_ := Aside0.mk (Kd.V_elder' (by (with_reducible repeat (first | apply Kd.V_alloc | apply Kd.V_drewN | apply Kd.V_drew)); exact HO0.out) (Kd.R_base ho3) hb); have n1_ := Aside0.mk (Kd.R_lower (Kd.R_newM (M := fun k_ => (w.heap.size ≤ k_)) ho3 (below_size (by repeat (first | (with_reducible first | exact HB.out | apply below_alloc | apply pw_below_drewN | apply below_drew1) | exact HB.out))) (fun k_ h_ => h_)) (below_size (by repeat (first | (with_reducible first | exact HB.out | apply below_alloc | apply pw_below_drewN | apply below_drew1) | exact HB.out)))); have n2_ := Aside0.mk (below_step (by repeat (first | (with_reducible first | exact HB.out | apply below_alloc | apply pw_below_drewN | apply below_drew1) | exact HB.out)) hb); clear HO0; clear HB; have HO0 := n0_; have HO283 := n1_; have HB := n2_; clear n0_ n1_ n2_; clear hb ho3))
 go_loopg [0, 3] k (fun kq v0 v3 w' => ∃ (x0_1 : List Int) (x3_1 : List (S48)), Aside0 (impl_unpack.l0 kq x0_1 x3_1 = some r) ∧ Aside0 (kq ≤ k) ∧ Aside0 (Kd.V (Kd.int .u8) 5 w' w.heap.size (fun k_ => (P0_ k_ ∨ w.heap.size ≤ k_) ∧ some k_ ≠ (v3 : Value).ownBlock) v0 x0_1) ∧ Aside0 (Kd.R k48 48 w' w.heap.size (fun k_ => (w.heap.size ≤ k_)) v3 x3_1) ∧ Aside0 (Below w.heap.size w w'))
 case atStart => exact ⟨(l0), (y281), H', ⟨Nat.le_refl _⟩, ⟨by (with_reducible repeat (first | apply Kd.V_alloc | apply Kd.V_drewN | apply Kd.V_drew)); exact HO0.out⟩, ⟨by (with_reducible repeat (first | apply Kd.R_alloc | apply Kd.R_drewN | apply Kd.R_drew)); exact Kd.R_mono HO283.out (fun _ hk => hk.1)⟩, ⟨by repeat (first | (with_reducible first | exact HB.out | apply below_alloc | apply pw_below_drewN | apply below_drew1) | exact HB.out)⟩⟩
 case round =>
  clear H'
  try clear p2
  obtain ⟨x0_1, x3_1, HA, HK1, HO_0, HO_3, HB⟩ := hrel
  cases gk with
  | zero => exact absurd HA.out (by simp [impl_unpack.l0])
  | succ k1 =>
   have H := HA.out
   clear HA
   simp only [impl_unpack.l0] at H
   by_cases c4 : (x0_1.length : Int) ≥ 13
   ·rw [if_pos c4] at H
    have c4b0 : decide (13 ≤ (x0_1.length : Int)) = true := decide_eq_true c4
    have c4b1 : decide (13 ≤ x0_1.length) = true := decide_eq_true (by omega)
    clear c4
    by_cases c5 : 13 ≤ (x0_1.length : Int)
    ·rw [if_pos c5] at H
     have c5b0 := eq_true c5
     have c5b1 : decide (13 ≤ (x0_1.length : Int)) = true := decide_eq_true c5
     clear c5
     obtain ⟨y284, hy284⟩ : ∃ y_ : List Int, y_ = (x0_1.take 13) := ⟨_, rfl⟩
     replace H : (if 1 ≤ (y284.length : Int) then ((impl_take.f k1 (y284.take 1)).bind fun t294 => (if 3 ≤ (y284.length : Int) then ((impl_take.f k1 ((y284.take 3).drop 1)).bind fun t300 => (if 4 ≤ (y284.length : Int) then ((impl_take.f k1 ((y284.take 4).drop 3)).bind fun t306 => (if 4 < (y284.length : Int) then (if 7 ≤ (y284.length : Int) then ((impl_take.f k1 ((y284.take 7).drop 5)).bind fun t314 => (if 9 ≤ (y284.length : Int) then ((impl_take.f k1 ((y284.take 9).drop 7)).bind fun t320 => (if 11 ≤ (y284.length : Int) then ((impl_take.f k1 ((y284.take 11).drop 9)).bind fun t326 => ((impl_RecFault.f k1 t294 t300 t306 ((Go.bits .and .u8 (rd y284 4) 1) == 1) t314 ((Go.bits .and .u8 (rd y284 4) 2) == 2) t320 t326).bind fun t328 => (if t328 = 0 then ((impl_Rec_pack.f k1 t294 t300 t306 ((Go.bits .and .u8 (rd y284 4) 1) == 1) t314 ((Go.bits .and .u8 (rd y284 4) 2) == 2) t320 t326).bind fun t329 => ((slices_Equal_byte.f k1 t329 y284).bind fun t332 => (if t332 = true then (if x3_1.length < 2199023255552 then (impl_unpack.l0 k1 (x0_1.drop 13) (x3_1 ++ [(⟨t294, t300, t306, ((Go.bits .and .u8 (rd y284 4) 1) == 1), t314, ((Go.bits .and .u8 (rd y284 4) 2) == 2), t320, t326⟩ : S48)])) else (none)) else (some x3_1)))) else (some x3_1)))) else (none))) else (none))) else (none)) else (none))) else (none))) else (none))) else (none)) = some r := by first | (rw [hy284]; with_reducible exact H) | (have H2_ := (Option.bind_some _ _).symm.trans H; rw [hy284]; with_reducible exact H2_) | (have H2_ := (Option.bind_some _ _).symm.trans H; with_reducible exact H2_) | with_reducible exact H | (rw [hy284]; exact H) | exact H
     have Ny284 := Aside0.mk hy284
     clear hy284
     by_cases c6 : 1 ≤ (y284.length : Int)
     ·rw [if_pos c6] at H
      have c6b0 := eq_true c6
      have c6b1 : decide (1 ≤ (y284.length : Int)) = true := decide_eq_true c6
      clear c6
      obtain ⟨y289, hy289⟩ : ∃ y_ : List Int, y_ = (y284.take 1) := ⟨_, rfl⟩
      replace H : ((impl_take.f k1 y289).bind fun t294 => (if 3 ≤ (y284.length : Int) then ((impl_take.f k1 ((y284.take 3).drop 1)).bind fun t300 => (if 4 ≤ (y284.length : Int) then ((impl_take.f k1 ((y284.take 4).drop 3)).bind fun t306 => (if 4 < (y284.length : Int) then (if 7 ≤ (y284.length : Int) then ((impl_take.f k1 ((y284.take 7).drop 5)).bind fun t314 => (if 9 ≤ (y284.length : Int) then ((impl_take.f k1 ((y284.take 9).drop 7)).bind fun t320 => (if 11 ≤ (y284.length : Int) then ((impl_take.f k1 ((y284.take 11).drop 9)).bind fun t326 => ((impl_RecFault.f k1 t294 t300 t306 ((Go.bits .and .u8 (rd y284 4) 1) == 1) t314 ((Go.bits .and .u8 (rd y284 4) 2) == 2) t320 t326).bind fun t328 => (if t328 = 0 then ((impl_Rec_pack.f k1 t294 t300 t306 ((Go.bits .and .u8 (rd y284 4) 1) == 1) t314 ((Go.bits .and .u8 (rd y284 4) 2) == 2) t320 t326).bind fun t329 => ((slices_Equal_byte.f k1 t329 y284).bind fun t332 => (if t332 = true then (if x3_1.length < 2199023255552 then (impl_unpack.l0 k1 (x0_1.drop 13) (x3_1 ++ [(⟨t294, t300, t306, ((Go.bits .and .u8 (rd y284 4) 1) == 1), t314, ((Go.bits .and .u8 (rd y284 4) 2) == 2), t320, t326⟩ : S48)])) else (none)) else (some x3_1)))) else (some x3_1)))) else (none))) else (none))) else (none)) else (none))) else (none))) else (none))) = some r := by first | (rw [hy289]; with_reducible exact H) | (have H2_ := (Option.bind_some _ _).symm.trans H; rw [hy289]; with_reducible exact H2_) | (have H2_ := (Option.bind_some _ _).symm.trans H; with_reducible exact H2_) | with_reducible exact H | (rw [hy289]; exact H) | exact H
      have Ny289 := Aside0.mk hy289
      clear hy289
      replace H := Option.bind_eq_some_iff.mp H
      obtain ⟨t294, A70, H⟩ := H
      replace H : (if 3 ≤ (y284.length : Int) then ((impl_take.f k1 ((y284.take 3).drop 1)).bind fun t300 => (if 4 ≤ (y284.length : Int) then ((impl_take.f k1 ((y284.take 4).drop 3)).bind fun t306 => (if 4 < (y284.length : Int) then (if 7 ≤ (y284.length : Int) then ((impl_take.f k1 ((y284.take 7).drop 5)).bind fun t314 => (if 9 ≤ (y284.length : Int) then ((impl_take.f k1 ((y284.take 9).drop 7)).bind fun t320 => (if 11 ≤ (y284.length : Int) then ((impl_take.f k1 ((y284.take 11).drop 9)).bind fun t326 => ((impl_RecFault.f k1 t294 t300 t306 ((Go.bits .and .u8 (rd y284 4) 1) == 1) t314 ((Go.bits .and .u8 (rd y284 4) 2) == 2) t320 t326).bind fun t328 => (if t328 = 0 then ((impl_Rec_pack.f k1 t294 t300 t306 ((Go.bits .and .u8 (rd y284 4) 1) == 1) t314 ((Go.bits .and .u8 (rd y284 4) 2) == 2) t320 t326).bind fun t329 => ((slices_Equal_byte.f k1 t329 y284).bind fun t332 => (if t332 = true then (if x3_1.length < 2199023255552 then (impl_unpack.l0 k1 (x0_1.drop 13) (x3_1 ++ [(⟨t294, t300, t306, ((Go.bits .and .u8 (rd y284 4) 1) == 1), t314, ((Go.bits .and .u8 (rd y284 4) 2) == 2), t320, t326⟩ : S48)])) else (none)) else (some x3_1)))) else (some x3_1)))) else (none))) else (none))) else (none)) else (none))) else (none))) else (none)) = some r := H
      have A7 := Aside0.mk A70
      clear A70
      by_cases c8 : 3 ≤ (y284.length : Int)
      ·rw [if_pos c8] at H
       have c8b0 := eq_true c8
       have c8b1 : decide (3 ≤ (y284.length : Int)) = true := decide_eq_true c8
       clear c8
       obtain ⟨y295, hy295⟩ : ∃ y_ : List Int, y_ = ((y284.take 3).drop 1) := ⟨_, rfl⟩
       replace H : ((impl_take.f k1 y295).bind fun t300 => (if 4 ≤ (y284.length : Int) then ((impl_take.f k1 ((y284.take 4).drop 3)).bind fun t306 => (if 4 < (y284.length : Int) then (if 7 ≤ (y284.length : Int) then ((impl_take.f k1 ((y284.take 7).drop 5)).bind fun t314 => (if 9 ≤ (y284.length : Int) then ((impl_take.f k1 ((y284.take 9).drop 7)).bind fun t320 => (if 11 ≤ (y284.length : Int) then ((impl_take.f k1 ((y284.take 11).drop 9)).bind fun t326 => ((impl_RecFault.f k1 t294 t300 t306 ((Go.bits .and .u8 (rd y284 4) 1) == 1) t314 ((Go.bits .and .u8 (rd y284 4) 2) == 2) t320 t326).bind fun t328 => (if t328 = 0 then ((impl_Rec_pack.f k1 t294 t300 t306 ((Go.bits .and .u8 (rd y284 4) 1) == 1) t314 ((Go.bits .and .u8 (rd y284 4) 2) == 2) t320 t326).bind fun t329 => ((slices_Equal_byte.f k1 t329 y284).bind fun t332 => (if t332 = true then (if x3_1.length < 2199023255552 then (impl_unpack.l0 k1 (x0_1.drop 13) (x3_1 ++ [(⟨t294, t300, t306, ((Go.bits .and .u8 (rd y284 4) 1) == 1), t314, ((Go.bits .and .u8 (rd y284 4) 2) == 2), t320, t326⟩ : S48)])) else (none)) else (some x3_1)))) else (some x3_1)))) else (none))) else (none))) else (none)) else (none))) else (none))) = some r := by first | (rw [hy295]; with_reducible exact H) | (have H2_ := (Option.bind_some _ _).symm.trans H; rw [hy295]; with_reducible exact H2_) | (have H2_ := (Option.bind_some _ _).symm.trans H; with_reducible exact H2_) | with_reducible exact H | (rw [hy295]; exact H) | exact H
       have Ny295 := Aside0.mk hy295
       clear hy295
       replace H := Option.bind_eq_some_iff.mp H
       obtain ⟨t300, A90, H⟩ := H
       replace H : (if 4 ≤ (y284.length : Int) then ((impl_take.f k1 ((y284.take 4).drop 3)).bind fun t306 => (if 4 < (y284.length : Int) then (if 7 ≤ (y284.length : Int) then ((impl_take.f k1 ((y284.take 7).drop 5)).bind fun t314 => (if 9 ≤ (y284.length : Int) then ((impl_take.f k1 ((y284.take 9).drop 7)).bind fun t320 => (if 11 ≤ (y284.length : Int) then ((impl_take.f k1 ((y284.take 11).drop 9)).bind fun t326 => ((impl_RecFault.f k1 t294 t300 t306 ((Go.bits .and .u8 (rd y284 4) 1) == 1) t314 ((Go.bits .and .u8 (rd y284 4) 2) == 2) t320 t326).bind fun t328 => (if t328 = 0 then ((impl_Rec_pack.f k1 t294 t300 t306 ((Go.bits .and .u8 (rd y284 4) 1) == 1) t314 ((Go.bits .and .u8 (rd y284 4) 2) == 2) t320 t326).bind fun t329 => ((slices_Equal_byte.f k1 t329 y284).bind fun t332 => (if t332 = true then (if x3_1.length < 2199023255552 then (impl_unpack.l0 k1 (x0_1.drop 13) (x3_1 ++ [(⟨t294, t300, t306, ((Go.bits .and .u8 (rd y284 4) 1) == 1), t314, ((Go.bits .and .u8 (rd y284 4) 2) == 2), t320, t326⟩ : S48)])) else (none)) else (some x3_1)))) else (some x3_1)))) else (none))) else (none))) else (none)) else (none))) else (none)) = some r := H
       have A9 := Aside0.mk A90
       clear A90
       by_cases c10 : 4 ≤ (y284.length : Int)
       ·rw [if_pos c10] at H
        have c10b0 := eq_true c10
        have c10b1 : decide (4 ≤ (y284.length : Int)) = true := decide_eq_true c10
        clear c10
        obtain ⟨y301, hy301⟩ : ∃ y_ : List Int, y_ = ((y284.take 4).drop 3) := ⟨_, rfl⟩
        replace H : ((impl_take.f k1 y301).bind fun t306 => (if 4 < (y284.length : Int) then (if 7 ≤ (y284.length : Int) then ((impl_take.f k1 ((y284.take 7).drop 5)).bind fun t314 => (if 9 ≤ (y284.length : Int) then ((impl_take.f k1 ((y284.take 9).drop 7)).bind fun t320 => (if 11 ≤ (y284.length : Int) then ((impl_take.f k1 ((y284.take 11).drop 9)).bind fun t326 => ((impl_RecFault.f k1 t294 t300 t306 ((Go.bits .and .u8 (rd y284 4) 1) == 1) t314 ((Go.bits .and .u8 (rd y284 4) 2) == 2) t320 t326).bind fun t328 => (if t328 = 0 then ((impl_Rec_pack.f k1 t294 t300 t306 ((Go.bits .and .u8 (rd y284 4) 1) == 1) t314 ((Go.bits .and .u8 (rd y284 4) 2) == 2) t320 t326).bind fun t329 => ((slices_Equal_byte.f k1 t329 y284).bind fun t332 => (if t332 = true then (if x3_1.length < 2199023255552 then (impl_unpack.l0 k1 (x0_1.drop 13) (x3_1 ++ [(⟨t294, t300, t306, ((Go.bits .and .u8 (rd y284 4) 1) == 1), t314, ((Go.bits .and .u8 (rd y284 4) 2) == 2), t320, t326⟩ : S48)])) else (none)) else (some x3_1)))) else (some x3_1)))) else (none))) else (none))) else (none)) else (none))) = some r := by first | (rw [hy301]; with_reducible exact H) | (have H2_ := (Option.bind_some _ _).symm.trans H; rw [hy301]; with_reducible exact H2_) | (have H2_ := (Option.bind_some _ _).symm.trans H; with_reducible exact H2_) | with_reducible exact H | (rw [hy301]; exact H) | exact H
        have Ny301 := Aside0.mk hy301
        clear hy301
        replace H := Option.bind_eq_some_iff.mp H
        obtain ⟨t306, A110, H⟩ := H
        replace H : (if 4 < (y284.length : Int) then (if 7 ≤ (y284.length : Int) then ((impl_take.f k1 ((y284.take 7).drop 5)).bind fun t314 => (if 9 ≤ (y284.length : Int) then ((impl_take.f k1 ((y284.take 9).drop 7)).bind fun t320 => (if 11 ≤ (y284.length : Int) then ((impl_take.f k1 ((y284.take 11).drop 9)).bind fun t326 => ((impl_RecFault.f k1 t294 t300 t306 ((Go.bits .and .u8 (rd y284 4) 1) == 1) t314 ((Go.bits .and .u8 (rd y284 4) 2) == 2) t320 t326).bind fun t328 => (if t328 = 0 then ((impl_Rec_pack.f k1 t294 t300 t306 ((Go.bits .and .u8 (rd y284 4) 1) == 1) t314 ((Go.bits .and .u8 (rd y284 4) 2) == 2) t320 t326).bind fun t329 => ((slices_Equal_byte.f k1 t329 y284).bind fun t332 => (if t332 = true then (if x3_1.length < 2199023255552 then (impl_unpack.l0 k1 (x0_1.drop 13) (x3_1 ++ [(⟨t294, t300, t306, ((Go.bits .and .u8 (rd y284 4) 1) == 1), t314, ((Go.bits .and .u8 (rd y284 4) 2) == 2), t320, t326⟩ : S48)])) else (none)) else (some x3_1)))) else (some x3_1)))) else (none))) else (none))) else (none)) else (none)) = some r := H
        have A11 := Aside0.mk A110
        clear A110
        by_cases c12 : 4 < (y284.length : Int)
        ·rw [if_pos c12] at H
         have c12b0 : decide (4 < (y284.length : Int)) = true := decide_eq_true c12
         have c12b1 : decide (4 < y284.length) = true := decide_eq_true (by omega)
         clear c12
         by_cases c13 : 7 ≤ (y284.length : Int)
         ·rw [if_pos c13] at H
          have c13b0 := eq_true c13
          have c13b1 : decide (7 ≤ (y284.length : Int)) = true := decide_eq_true c13
          clear c13
          obtain ⟨y309, hy309⟩ : ∃ y_ : List Int, y_ = ((y284.take 7).drop 5) := ⟨_, rfl⟩
          replace H : ((impl_take.f k1 y309).bind fun t314 => (if 9 ≤ (y284.length : Int) then ((impl_take.f k1 ((y284.take 9).drop 7)).bind fun t320 => (if 11 ≤ (y284.length : Int) then ((impl_take.f k1 ((y284.take 11).drop 9)).bind fun t326 => ((impl_RecFault.f k1 t294 t300 t306 ((Go.bits .and .u8 (rd y284 4) 1) == 1) t314 ((Go.bits .and .u8 (rd y284 4) 2) == 2) t320 t326).bind fun t328 => (if t328 = 0 then ((impl_Rec_pack.f k1 t294 t300 t306 ((Go.bits .and .u8 (rd y284 4) 1) == 1) t314 ((Go.bits .and .u8 (rd y284 4) 2) == 2) t320 t326).bind fun t329 => ((slices_Equal_byte.f k1 t329 y284).bind fun t332 => (if t332 = true then (if x3_1.length < 2199023255552 then (impl_unpack.l0 k1 (x0_1.drop 13) (x3_1 ++ [(⟨t294, t300, t306, ((Go.bits .and .u8 (rd y284 4) 1) == 1), t314, ((Go.bits .and .u8 (rd y284 4) 2) == 2), t320, t326⟩ : S48)])) else (none)) else (some x3_1)))) else (some x3_1)))) else (none))) else (none))) = some r := by first | (rw [hy309]; with_reducible exact H) | (have H2_ := (Option.bind_some _ _).symm.trans H; rw [hy309]; with_reducible exact H2_) | (have H2_ := (Option.bind_some _ _).symm.trans H; with_reducible exact H2_) | with_reducible exact H | (rw [hy309]; exact H) | exact H
          have Ny309 := Aside0.mk hy309
          clear hy309
          replace H := Option.bind_eq_some_iff.mp H
          obtain ⟨t314, A140, H⟩ := H
          replace H : (if 9 ≤ (y284.length : Int) then ((impl_take.f k1 ((y284.take 9).drop 7)).bind fun t320 => (if 11 ≤ (y284.length : Int) then ((impl_take.f k1 ((y284.take 11).drop 9)).bind fun t326 => ((impl_RecFault.f k1 t294 t300 t306 ((Go.bits .and .u8 (rd y284 4) 1) == 1) t314 ((Go.bits .and .u8 (rd y284 4) 2) == 2) t320 t326).bind fun t328 => (if t328 = 0 then ((impl_Rec_pack.f k1 t294 t300 t306 ((Go.bits .and .u8 (rd y284 4) 1) == 1) t314 ((Go.bits .and .u8 (rd y284 4) 2) == 2) t320 t326).bind fun t329 => ((slices_Equal_byte.f k1 t329 y284).bind fun t332 => (if t332 = true then (if x3_1.length < 2199023255552 then (impl_unpack.l0 k1 (x0_1.drop 13) (x3_1 ++ [(⟨t294, t300, t306, ((Go.bits .and .u8 (rd y284 4) 1) == 1), t314, ((Go.bits .and .u8 (rd y284 4) 2) == 2), t320, t326⟩ : S48)])) else (none)) else (some x3_1)))) else (some x3_1)))) else (none))) else (none)) = some r := H
          have A14 := Aside0.mk A140
          clear A140
          by_cases c15 : 9 ≤ (y284.length : Int)
          ·rw [if_pos c15] at H
           have c15b0 := eq_true c15
           have c15b1 : decide (9 ≤ (y284.length : Int)) = true := decide_eq_true c15
           clear c15
           obtain ⟨y315, hy315⟩ : ∃ y_ : List Int, y_ = ((y284.take 9).drop 7) := ⟨_, rfl⟩
           replace H : ((impl_take.f k1 y315).bind fun t320 => (if 11 ≤ (y284.length : Int) then ((impl_take.f k1 ((y284.take 11).drop 9)).bind fun t326 => ((impl_RecFault.f k1 t294 t300 t306 ((Go.bits .and .u8 (rd y284 4) 1) == 1) t314 ((Go.bits .and .u8 (rd y284 4) 2) == 2) t320 t326).bind fun t328 => (if t328 = 0 then ((impl_Rec_pack.f k1 t294 t300 t306 ((Go.bits .and .u8 (rd y284 4) 1) == 1) t314 ((Go.bits .and .u8 (rd y284 4) 2) == 2) t320 t326).bind fun t329 => ((slices_Equal_byte.f k1 t329 y284).bind fun t332 => (if t332 = true then (if x3_1.length < 2199023255552 then (impl_unpack.l0 k1 (x0_1.drop 13) (x3_1 ++ [(⟨t294, t300, t306, ((Go.bits .and .u8 (rd y284 4) 1) == 1), t314, ((Go.bits .and .u8 (rd y284 4) 2) == 2), t320, t326⟩ : S48)])) else (none)) else (some x3_1)))) else (some x3_1)))) else (none))) = some r := by first | (rw [hy315]; with_reducible exact H) | (have H2_ := (Option.bind_some _ _).symm.trans H; rw [hy315]; with_reducible exact H2_) | (have H2_ := (Option.bind_some _ _).symm.trans H; with_reducible exact H2_) | with_reducible exact H | (rw [hy315]; exact H) | exact H
           have Ny315 := Aside0.mk hy315
           clear hy315
           replace H := Option.bind_eq_some_iff.mp H
           obtain ⟨t320, A160, H⟩ := H
           replace H : (if 11 ≤ (y284.length : Int) then ((impl_take.f k1 ((y284.take 11).drop 9)).bind fun t326 => ((impl_RecFault.f k1 t294 t300 t306 ((Go.bits .and .u8 (rd y284 4) 1) == 1) t314 ((Go.bits .and .u8 (rd y284 4) 2) == 2) t320 t326).bind fun t328 => (if t328 = 0 then ((impl_Rec_pack.f k1 t294 t300 t306 ((Go.bits .and .u8 (rd y284 4) 1) == 1) t314 ((Go.bits .and .u8 (rd y284 4) 2) == 2) t320 t326).bind fun t329 => ((slices_Equal_byte.f k1 t329 y284).bind fun t332 => (if t332 = true then (if x3_1.length < 2199023255552 then (impl_unpack.l0 k1 (x0_1.drop 13) (x3_1 ++ [(⟨t294, t300, t306, ((Go.bits .and .u8 (rd y284 4) 1) == 1), t314, ((Go.bits .and .u8 (rd y284 4) 2) == 2), t320, t326⟩ : S48)])) else (none)) else (some x3_1)))) else (some x3_1)))) else (none)) = some r := H
           have A16 := Aside0.mk A160
           clear A160
           by_cases c17 : 11 ≤ (y284.length : Int)
           ·rw [if_pos c17] at H
            have c17b0 := eq_true c17
            have c17b1 : decide (11 ≤ (y284.length : Int)) = true := decide_eq_true c17
            clear c17
            obtain ⟨y321, hy321⟩ : ∃ y_ : List Int, y_ = ((y284.take 11).drop 9) := ⟨_, rfl⟩
            replace H : ((impl_take.f k1 y321).bind fun t326 => ((impl_RecFault.f k1 t294 t300 t306 ((Go.bits .and .u8 (rd y284 4) 1) == 1) t314 ((Go.bits .and .u8 (rd y284 4) 2) == 2) t320 t326).bind fun t328 => (if t328 = 0 then ((impl_Rec_pack.f k1 t294 t300 t306 ((Go.bits .and .u8 (rd y284 4) 1) == 1) t314 ((Go.bits .and .u8 (rd y284 4) 2) == 2) t320 t326).bind fun t329 => ((slices_Equal_byte.f k1 t329 y284).bind fun t332 => (if t332 = true then (if x3_1.length < 2199023255552 then (impl_unpack.l0 k1 (x0_1.drop 13) (x3_1 ++ [(⟨t294, t300, t306, ((Go.bits .and .u8 (rd y284 4) 1) == 1), t314, ((Go.bits .and .u8 (rd y284 4) 2) == 2), t320, t326⟩ : S48)])) else (none)) else (some x3_1)))) else (some x3_1)))) = some r := by first | (rw [hy321]; with_reducible exact H) | (have H2_ := (Option.bind_some _ _).symm.trans H; rw [hy321]; with_reducible exact H2_) | (have H2_ := (Option.bind_some _ _).symm.trans H; with_reducible exact H2_) | with_reducible exact H | (rw [hy321]; exact H) | exact H
            have Ny321 := Aside0.mk hy321
            clear hy321
            replace H := Option.bind_eq_some_iff.mp H
            obtain ⟨t326, A180, H⟩ := H
            replace H : ((impl_RecFault.f k1 t294 t300 t306 ((Go.bits .and .u8 (rd y284 4) 1) == 1) t314 ((Go.bits .and .u8 (rd y284 4) 2) == 2) t320 t326).bind fun t328 => (if t328 = 0 then ((impl_Rec_pack.f k1 t294 t300 t306 ((Go.bits .and .u8 (rd y284 4) 1) == 1) t314 ((Go.bits .and .u8 (rd y284 4) 2) == 2) t320 t326).bind fun t329 => ((slices_Equal_byte.f k1 t329 y284).bind fun t332 => (if t332 = true then (if x3_1.length < 2199023255552 then (impl_unpack.l0 k1 (x0_1.drop 13) (x3_1 ++ [(⟨t294, t300, t306, ((Go.bits .and .u8 (rd y284 4) 1) == 1), t314, ((Go.bits .and .u8 (rd y284 4) 2) == 2), t320, t326⟩ : S48)])) else (none)) else (some x3_1)))) else (some x3_1))) = some r := H
            have A18 := Aside0.mk A180
            clear A180
            replace H := Option.bind_eq_some_iff.mp H
            obtain ⟨t328, A190, H⟩ := H
            replace H : (if t328 = 0 then ((impl_Rec_pack.f k1 t294 t300 t306 ((Go.bits .and .u8 (rd y284 4) 1) == 1) t314 ((Go.bits .and .u8 (rd y284 4) 2) == 2) t320 t326).bind fun t329 => ((slices_Equal_byte.f k1 t329 y284).bind fun t332 => (if t332 = true then (if x3_1.length < 2199023255552 then (impl_unpack.l0 k1 (x0_1.drop 13) (x3_1 ++ [(⟨t294, t300, t306, ((Go.bits .and .u8 (rd y284 4) 1) == 1), t314, ((Go.bits .and .u8 (rd y284 4) 2) == 2), t320, t326⟩ : S48)])) else (none)) else (some x3_1)))) else (some x3_1)) = some r := H
            have A19 := Aside0.mk A190
            clear A190
            have HX_ := Aside0.mk H
            clear H
            obtain ⟨Ao26, co26, eo26⟩ := Kd.V_slice HO_0.out
            subst eo26
            have q27 : (13 : Int) ≤ ((x0_1.length : Int) : Int) := of_decide_eq_true (by first | (with_reducible assumption) | assumption)
            obtain ⟨i027, hi027, _, hsz27, _⟩ := info_parts info5
            have hroom27 : x0_1.length ≤ co26 := (Kd.V_reads' HO_0.out).2.1
            have hC27 : Kd.F (Kd.int .u8) _ _ Ao26 x0_1.length x0_1 := (Kd.V_at (base := w.heap.size) HO_0.out).2.2
            have hcut27 := cut_to (P := Try.prog) 22 5 .i64 Try.underlying22 hi027 Ao26 x0_1.length co26 13 (by omega) q27 hroom27
            have hr27 := Kd.F_take (m := 13) hC27 (by omega)
            have hy27 : y284.length = (13 : Int).toNat := (by rw [Ny284.out, List.length_take]; omega)
            rw [← Ny284.out] at hr27
            rw [← hy27] at hcut27
            have HO288 := Aside0.mk (show Kd.V (Kd.int .u8) 5 _ w.heap.size _ (.slice Ao26 y284.length co26) y284 from Kd.V_mk (by omega) hr27)
            have HC288 := Aside0.mk (show y284.length ≤ co26 from by omega)
            clear hr27 hC27 hroom27 hi027 hsz27
            have KY27 := Aside0.mk hy27
            clear hy27
            replace q27 := eq_true q27
            try go_wp2
            have n0_ := Aside0.mk (Kd.V_drew HO_0.out)
            have n1_ := Aside0.mk (Kd.R_drew HO_3.out)
            have n2_ := Aside0.mk (Kd.V_drew HO288.out)
            have n3_ := Aside0.mk (below_drew1 HB.out)
            clear HO_0
            clear HO_3
            clear HO288
            clear HB
            have HO_0 := n0_
            have HO_3 := n1_
            have HO288 := n2_
            have HB := n3_
            clear n0_ n1_ n2_ n3_
            have q29 : (1 : Int) ≤ ((y284.length : Int) : Int) := of_decide_eq_true (by first | (with_reducible assumption) | assumption)
            obtain ⟨i029, hi029, _, hsz29, _⟩ := info_parts info5
            have hroom29 : y284.length ≤ co26 := (Kd.V_reads' HO288.out).2.1
            have hC29 : Kd.F (Kd.int .u8) _ _ Ao26 y284.length y284 := (Kd.V_at (base := w.heap.size) HO288.out).2.2
            have hcut29 := cut_to (P := Try.prog) 22 5 .i64 Try.underlying22 hi029 Ao26 y284.length co26 1 (by omega) q29 hroom29
            have hr29 := Kd.F_take (m := 1) hC29 (by omega)
            have hy29 : y289.length = (1 : Int).toNat := (by rw [Ny289.out, List.length_take]; omega)
            rw [← Ny289.out] at hr29
            rw [← hy29] at hcut29
            have HO293 := Aside0.mk (show Kd.V (Kd.int .u8) 5 _ w.heap.size _ (.slice Ao26 y289.length co26) y289 from Kd.V_mk (by omega) hr29)
            have HC293 := Aside0.mk (show y289.length ≤ co26 from by omega)
            clear hr29 hC29 hroom29 hi029 hsz29
            have KY29 := Aside0.mk hy29
            clear hy29
            replace q29 := eq_true q29
            have q30 : (3 : Int) ≤ ((y284.length : Int) : Int) := of_decide_eq_true (by first | (with_reducible assumption) | assumption)
            obtain ⟨i030, hi030, _, hsz30, _⟩ := info_parts info5
            have hroom30 : y284.length ≤ co26 := (Kd.V_reads' HO288.out).2.1
            have hC30 : Kd.F (Kd.int .u8) _ _ Ao26 y284.length y284 := (Kd.V_at (base := w.heap.size) HO288.out).2.2
            have ql30 : (1 : Int) ≤ (3 : Int) := (by omega)
            have hcut30 := cut_mid (P := Try.prog) 22 5 .i64 .i64 Try.underlying22 hi030 1 hsz30 Ao26 y284.length co26 1 3 (by omega) ql30 q30 hroom30
            have hr30 := Kd.F_mid (lo := (1 : Int).toNat) (hi := (3 : Int).toNat) (c := co26) hC30 (by omega) (by omega) hroom30
            obtain ⟨A30, hA30⟩ : ∃ A1, A1 = (if co26 = (1 : Int).toNat then Ao26 else (Ao26 : Option Addr).map (·.add ((1 : Int).toNat * 1))) := ⟨_, rfl⟩
            obtain ⟨c30, hc30⟩ : ∃ c1, c1 = co26 - (1 : Int).toNat := ⟨_, rfl⟩
            have hy30 : y295.length = (3 : Int).toNat - (1 : Int).toNat := (by rw [Ny295.out, List.length_drop, List.length_take] <;> omega)
            rw [show ((y284).take (3 : Int).toNat).drop (1 : Int).toNat = y295 from Ny295.out.symm] at hr30
            replace hr30 : Kd.F (Kd.int .u8) _ _ A30 y295.length y295 := (by rw [hA30]; exact hr30)
            rw [← hy30, ← hA30, ← hc30] at hcut30
            have HO299 := Aside0.mk (show Kd.V (Kd.int .u8) 5 _ w.heap.size _ (.slice A30 y295.length c30) y295 from Kd.V_mk (by rw [hy30, hc30]; exact Nat.sub_le_sub_right (Nat.le_trans (by omega) hroom30) _) hr30)
            have HC299 := Aside0.mk (show y295.length ≤ c30 from by rw [hy30, hc30]; exact Nat.sub_le_sub_right (Nat.le_trans (by omega) hroom30) _)
            clear hr30 hC30 hroom30 hi030 hsz30 hc30
            have KY30 := Aside0.mk hy30
            have KA30 := Aside0.mk hA30
            clear hy30 hA30
            replace q30 := eq_true q30
            have q31 : (4 : Int) ≤ ((y284.length : Int) : Int) := of_decide_eq_true (by first | (with_reducible assumption) | assumption)
            obtain ⟨i031, hi031, _, hsz31, _⟩ := info_parts info5
            have hroom31 : y284.length ≤ co26 := (Kd.V_reads' HO288.out).2.1
            have hC31 : Kd.F (Kd.int .u8) _ _ Ao26 y284.length y284 := (Kd.V_at (base := w.heap.size) HO288.out).2.2
            have ql31 : (3 : Int) ≤ (4 : Int) := (by omega)
            have hcut31 := cut_mid (P := Try.prog) 22 5 .i64 .i64 Try.underlying22 hi031 1 hsz31 Ao26 y284.length co26 3 4 (by omega) ql31 q31 hroom31
            have hr31 := Kd.F_mid (lo := (3 : Int).toNat) (hi := (4 : Int).toNat) (c := co26) hC31 (by omega) (by omega) hroom31
            obtain ⟨A31, hA31⟩ : ∃ A1, A1 = (if co26 = (3 : Int).toNat then Ao26 else (Ao26 : Option Addr).map (·.add ((3 : Int).toNat * 1))) := ⟨_, rfl⟩
            obtain ⟨c31, hc31⟩ : ∃ c1, c1 = co26 - (3 : Int).toNat := ⟨_, rfl⟩
            have hy31 : y301.length = (4 : Int).toNat - (3 : Int).toNat := (by rw [Ny301.out, List.length_drop, List.length_take] <;> omega)
            rw [show ((y284).take (4 : Int).toNat).drop (3 : Int).toNat = y301 from Ny301.out.symm] at hr31
            replace hr31 : Kd.F (Kd.int .u8) _ _ A31 y301.length y301 := (by rw [hA31]; exact hr31)
            rw [← hy31, ← hA31, ← hc31] at hcut31
            have HO305 := Aside0.mk (show Kd.V (Kd.int .u8) 5 _ w.heap.size _ (.slice A31 y301.length c31) y301 from Kd.V_mk (by rw [hy31, hc31]; exact Nat.sub_le_sub_right (Nat.le_trans (by omega) hroom31) _) hr31)
            have HC305 := Aside0.mk (show y301.length ≤ c31 from by rw [hy31, hc31]; exact Nat.sub_le_sub_right (Nat.le_trans (by omega) hroom31) _)
            clear hr31 hC31 hroom31 hi031 hsz31 hc31
            have KY31 := Aside0.mk hy31
            have KA31 := Aside0.mk hA31
            clear hy31 hA31
            replace q31 := eq_true q31
            have p307 : 0 ≤ (4 : Int) := (by omega)
            have q307 : 4 < (y284.length : Int) := of_decide_eq_true (by first | (with_reducible assumption) | assumption)
            obtain ⟨ad307, e307, hx307_0⟩ := Kd.at_int (Kd.V_reads' HO288.out).2.2 4 p307 q307
            cases e307
            (try simp only [show (4 : Int).toNat = 4 from rfl, Nat.reduceMul, Nat.reduceEqDiff, Go.Addr.add, ↓reduceIte] at hx307_0)
            have qi307 : (4 < y284.length) = True := eq_true (by omega)
            (try rw [show ((4 : Int)).toNat = 4 from rfl] at hx307_0)
            replace p307 := eq_true p307
            replace q307 := eq_true q307
            have p308 : 0 ≤ (4 : Int) := (by omega)
            have q308 : 4 < (y284.length : Int) := of_decide_eq_true (by first | (with_reducible assumption) | assumption)
            obtain ⟨ad308, e308, hx308_0⟩ := Kd.at_int (Kd.V_reads' HO288.out).2.2 4 p308 q308
            obtain rfl : ad307 = ad308 := (by injection e308)
            (try simp only [show (4 : Int).toNat = 4 from rfl, Nat.reduceMul, Nat.reduceEqDiff, Go.Addr.add, ↓reduceIte] at hx308_0)
            have qi308 : (4 < y284.length) = True := eq_true (by omega)
            (try rw [show ((4 : Int)).toNat = 4 from rfl] at hx308_0)
            replace p308 := eq_true p308
            replace q308 := eq_true q308
            have q32 : (7 : Int) ≤ ((y284.length : Int) : Int) := of_decide_eq_true (by first | (with_reducible assumption) | assumption)
            obtain ⟨i032, hi032, _, hsz32, _⟩ := info_parts info5
            have hroom32 : y284.length ≤ co26 := (Kd.V_reads' HO288.out).2.1
            have hC32 : Kd.F (Kd.int .u8) _ _ (some ad307) y284.length y284 := (Kd.V_at (base := w.heap.size) HO288.out).2.2
            have ql32 : (5 : Int) ≤ (7 : Int) := (by omega)
            have hcut32 := cut_mid (P := Try.prog) 22 5 .i64 .i64 Try.underlying22 hi032 1 hsz32 (some ad307) y284.length co26 5 7 (by omega) ql32 q32 hroom32
            have hr32 := Kd.F_mid (lo := (5 : Int).toNat) (hi := (7 : Int).toNat) (c := co26) hC32 (by omega) (by omega) hroom32
            obtain ⟨A32, hA32⟩ : ∃ A1, A1 = (if co26 = (5 : Int).toNat then (some ad307) else ((some ad307) : Option Addr).map (·.add ((5 : Int).toNat * 1))) := ⟨_, rfl⟩
            obtain ⟨c32, hc32⟩ : ∃ c1, c1 = co26 - (5 : Int).toNat := ⟨_, rfl⟩
            have hy32 : y309.length = (7 : Int).toNat - (5 : Int).toNat := (by rw [Ny309.out, List.length_drop, List.length_take] <;> omega)
            rw [show ((y284).take (7 : Int).toNat).drop (5 : Int).toNat = y309 from Ny309.out.symm] at hr32
            replace hr32 : Kd.F (Kd.int .u8) _ _ A32 y309.length y309 := (by rw [hA32]; exact hr32)
            rw [← hy32, ← hA32, ← hc32] at hcut32
            have HO313 := Aside0.mk (show Kd.V (Kd.int .u8) 5 _ w.heap.size _ (.slice A32 y309.length c32) y309 from Kd.V_mk (by rw [hy32, hc32]; exact Nat.sub_le_sub_right (Nat.le_trans (by omega) hroom32) _) hr32)
            have HC313 := Aside0.mk (show y309.length ≤ c32 from by rw [hy32, hc32]; exact Nat.sub_le_sub_right (Nat.le_trans (by omega) hroom32) _)
            clear hr32 hC32 hroom32 hi032 hsz32 hc32
            have KY32 := Aside0.mk hy32
            have KA32 := Aside0.mk hA32
            clear hy32 hA32
            replace q32 := eq_true q32
            have q33 : (9 : Int) ≤ ((y284.length : Int) : Int) := of_decide_eq_true (by first | (with_reducible assumption) | assumption)
            obtain ⟨i033, hi033, _, hsz33, _⟩ := info_parts info5
            have hroom33 : y284.length ≤ co26 := (Kd.V_reads' HO288.out).2.1
            have hC33 : Kd.F (Kd.int .u8) _ _ (some ad307) y284.length y284 := (Kd.V_at (base := w.heap.size) HO288.out).2.2
            have ql33 : (7 : Int) ≤ (9 : Int) := (by omega)
            have hcut33 := cut_mid (P := Try.prog) 22 5 .i64 .i64 Try.underlying22 hi033 1 hsz33 (some ad307) y284.length co26 7 9 (by omega) ql33 q33 hroom33
            have hr33 := Kd.F_mid (lo := (7 : Int).toNat) (hi := (9 : Int).toNat) (c := co26) hC33 (by omega) (by omega) hroom33
            obtain ⟨A33, hA33⟩ : ∃ A1, A1 = (if co26 = (7 : Int).toNat then (some ad307) else ((some ad307) : Option Addr).map (·.add ((7 : Int).toNat * 1))) := ⟨_, rfl⟩
            obtain ⟨c33, hc33⟩ : ∃ c1, c1 = co26 - (7 : Int).toNat := ⟨_, rfl⟩
            have hy33 : y315.length = (9 : Int).toNat - (7 : Int).toNat := (by rw [Ny315.out, List.length_drop, List.length_take] <;> omega)
            rw [show ((y284).take (9 : Int).toNat).drop (7 : Int).toNat = y315 from Ny315.out.symm] at hr33
            replace hr33 : Kd.F (Kd.int .u8) _ _ A33 y315.length y315 := (by rw [hA33]; exact hr33)
            rw [← hy33, ← hA33, ← hc33] at hcut33
            have HO319 := Aside0.mk (show Kd.V (Kd.int .u8) 5 _ w.heap.size _ (.slice A33 y315.length c33) y315 from Kd.V_mk (by rw [hy33, hc33]; exact Nat.sub_le_sub_right (Nat.le_trans (by omega) hroom33) _) hr33)
            have HC319 := Aside0.mk (show y315.length ≤ c33 from by rw [hy33, hc33]; exact Nat.sub_le_sub_right (Nat.le_trans (by omega) hroom33) _)
            clear hr33 hC33 hroom33 hi033 hsz33 hc33
            have KY33 := Aside0.mk hy33
            have KA33 := Aside0.mk hA33
            clear hy33 hA33
            replace q33 := eq_true q33
            have q34 : (11 : Int) ≤ ((y284.length : Int) : Int) := of_decide_eq_true (by first | (with_reducible assumption) | assumption)
            obtain ⟨i034, hi034, _, hsz34, _⟩ := info_parts info5
            have hroom34 : y284.length ≤ co26 := (Kd.V_reads' HO288.out).2.1
            have hC34 : Kd.F (Kd.int .u8) _ _ (some ad307) y284.length y284 := (Kd.V_at (base := w.heap.size) HO288.out).2.2
            have ql34 : (9 : Int) ≤ (11 : Int) := (by omega)
            have hcut34 := cut_mid (P := Try.prog) 22 5 .i64 .i64 Try.underlying22 hi034 1 hsz34 (some ad307) y284.length co26 9 11 (by omega) ql34 q34 hroom34
            have hr34 := Kd.F_mid (lo := (9 : Int).toNat) (hi := (11 : Int).toNat) (c := co26) hC34 (by omega) (by omega) hroom34
            obtain ⟨A34, hA34⟩ : ∃ A1, A1 = (if co26 = (9 : Int).toNat then (some ad307) else ((some ad307) : Option Addr).map (·.add ((9 : Int).toNat * 1))) := ⟨_, rfl⟩
            obtain ⟨c34, hc34⟩ : ∃ c1, c1 = co26 - (9 : Int).toNat := ⟨_, rfl⟩
            have hy34 : y321.length = (11 : Int).toNat - (9 : Int).toNat := (by rw [Ny321.out, List.length_drop, List.length_take] <;> omega)
            rw [show ((y284).take (11 : Int).toNat).drop (9 : Int).toNat = y321 from Ny321.out.symm] at hr34
            replace hr34 : Kd.F (Kd.int .u8) _ _ A34 y321.length y321 := (by rw [hA34]; exact hr34)
            rw [← hy34, ← hA34, ← hc34] at hcut34
            have HO325 := Aside0.mk (show Kd.V (Kd.int .u8) 5 _ w.heap.size _ (.slice A34 y321.length c34) y321 from Kd.V_mk (by rw [hy34, hc34]; exact Nat.sub_le_sub_right (Nat.le_trans (by omega) hroom34) _) hr34)
            have HC325 := Aside0.mk (show y321.length ≤ c34 from by rw [hy34, hc34]; exact Nat.sub_le_sub_right (Nat.le_trans (by omega) hroom34) _)
            clear hr34 hC34 hroom34 hi034 hsz34 hc34
            have KY34 := Aside0.mk hy34
            have KA34 := Aside0.mk hA34
            clear hy34 hA34
            replace q34 := eq_true q34
            refine start_ (n := 31) (S := fun w' => w'.cell? ⟨ad307.block, ad307.off + 4, none⟩ = some (.int .u8 (rd y284 4)) ∧ w'.cell? ⟨ad307.block, ad307.off + 4, none⟩ = some (.int .u8 (rd y284 4))) (ds := []) #[false, false, false, false, false, false, false, false, false, false, false, false, false, false, false, false, false, false, false, false, false, false, false, false, false, false, false, false, false, false, false] (by kernel_rfl) rfl rfl ⟨hx307_0, hx308_0⟩ (fun hHeld => ?_); refine with_tabW impl_unpack.tab5 impl_unpack.bits5 (fun HT_ HW_ => ?_)
            generalize wr.drew = w28 at HO_0 HO_3 HO288 HB HO293 HO299 HO305 HO313 HO319 HO325 hx307_0 hx308_0 hHeld ⊢
            refine pure_ (i := 0) (N := some 14) (v := ?_) (a' := ?_) #[true, false, false, false, false, false, false, false, false, false, false, false, false, false, false, false, false, false, false, false, false, false, false, false, false, false, false, false, false, false, false] rfl rfl (any_of HT_.out (by kernel_rfl)) (fun _ _ _ h => h) (Or.inl ⟨by rfl, ?_⟩) ?_ ?_
            rotate_left
            ·intro w'
             go_simp
             with_reducible rfl
            rotate_left
            ·simp only [Act.put, List.setIfInBounds_toArray, List.set_cons_zero, List.set_cons_succ, i64_w, i32_w]
             rfl
            refine pure_ (i := 1) (N := some 15) (v := ?_) (a' := ?_) #[true, true, false, false, false, false, false, false, false, false, false, false, false, false, false, false, false, false, false, false, false, false, false, false, false, false, false, false, false, false, false] rfl rfl (any_of HT_.out (by kernel_rfl)) (fun _ _ _ h => h) (Or.inl ⟨by rfl, ?_⟩) ?_ ?_
            rotate_left
            ·intro w'
             go_simp
             with_reducible rfl
            rotate_left
            ·simp only [Act.put, List.setIfInBounds_toArray, List.set_cons_zero, List.set_cons_succ, i64_w, i32_w]
             rfl
            refine pure_ (i := 3) (N := some 17) (v := ?_) (a' := ?_) #[true, true, false, true, false, false, false, false, false, false, false, false, false, false, false, false, false, false, false, false, false, false, false, false, false, false, false, false, false, false, false] rfl rfl (any_of HT_.out (by kernel_rfl)) (fun _ _ _ h => h) (Or.inl ⟨by rfl, ?_⟩) ?_ ?_
            rotate_left
            ·intro w'
             go_simp
             with_reducible rfl
            rotate_left
            ·simp only [Act.put, List.setIfInBounds_toArray, List.set_cons_zero, List.set_cons_succ, i64_w, i32_w]
             rfl
            refine pure_ (i := 4) (N := some 18) (v := ?_) (a' := ?_) #[true, true, false, true, true, false, false, false, false, false, false, false, false, false, false, false, false, false, false, false, false, false, false, false, false, false, false, false, false, false, false] rfl rfl (any_of HT_.out (by kernel_rfl)) (fun _ _ _ h => h) (Or.inl ⟨by rfl, ?_⟩) ?_ ?_
            rotate_left
            ·intro w'
             go_simp
             with_reducible rfl
            rotate_left
            ·simp only [Act.put, List.setIfInBounds_toArray, List.set_cons_zero, List.set_cons_succ, i64_w, i32_w]
             rfl
            refine pure_ (i := 6) (N := some 20) (v := ?_) (a' := ?_) #[true, true, false, true, true, false, true, false, false, false, false, false, false, false, false, false, false, false, false, false, false, false, false, false, false, false, false, false, false, false, false] rfl rfl (any_of HT_.out (by kernel_rfl)) (fun _ _ _ h => h) (Or.inl ⟨by rfl, ?_⟩) ?_ ?_
            rotate_left
            ·intro w'
             go_simp
             with_reducible rfl
            rotate_left
            ·simp only [Act.put, List.setIfInBounds_toArray, List.set_cons_zero, List.set_cons_succ, i64_w, i32_w]
             rfl
            refine pure_ (i := 7) (N := some 21) (v := ?_) (a' := ?_) #[true, true, false, true, true, false, true, true, false, false, false, false, false, false, false, false, false, false, false, false, false, false, false, false, false, false, false, false, false, false, false] rfl rfl (any_of HT_.out (by kernel_rfl)) (fun _ _ _ h => h) (Or.inl ⟨by rfl, ?_⟩) ?_ ?_
            rotate_left
            ·intro w'
             go_simp
             with_reducible rfl
            rotate_left
            ·simp only [Act.put, List.setIfInBounds_toArray, List.set_cons_zero, List.set_cons_succ, i64_w, i32_w]
             rfl
            refine pure_ (i := 9) (N := some 23) (v := ?_) (a' := ?_) #[true, true, false, true, true, false, true, true, false, true, false, false, false, false, false, false, false, false, false, false, false, false, false, false, false, false, false, false, false, false, false] rfl rfl (any_of HT_.out (by kernel_rfl)) (fun _ _ _ h => h) (Or.inl ⟨by rfl, ?_⟩) ?_ ?_
            rotate_left
            ·intro w'
             go_simp
             with_reducible rfl
            rotate_left
            ·simp only [Act.put, List.setIfInBounds_toArray, List.set_cons_zero, List.set_cons_succ, i64_w, i32_w]
             rfl
            refine pure_ (i := 10) (N := some 24) (v := ?_) (a' := ?_) #[true, true, false, true, true, false, true, true, false, true, true, false, false, false, false, false, false, false, false, false, false, false, false, false, false, false, false, false, false, false, false] rfl rfl (any_of HT_.out (by kernel_rfl)) (fun _ _ _ h => h) (Or.inl ⟨by rfl, ?_⟩) ?_ ?_
            rotate_left
            ·intro w'
             go_simp
             with_reducible rfl
            rotate_left
            ·simp only [Act.put, List.setIfInBounds_toArray, List.set_cons_zero, List.set_cons_succ, i64_w, i32_w]
             rfl
            refine pure_ (i := 14) (N := some 28) (v := ?_) (a' := ?_) #[true, true, false, true, true, false, true, true, false, true, true, false, false, false, true, false, false, false, false, false, false, false, false, false, false, false, false, false, false, false, false] rfl rfl (any_of HT_.out (by kernel_rfl)) (fun _ _ _ h => h) (Or.inl ⟨by rfl, ?_⟩) ?_ ?_
            rotate_left
            ·intro w'
             go_simp
             with_reducible rfl
            rotate_left
            ·simp only [Act.put, List.setIfInBounds_toArray, List.set_cons_zero, List.set_cons_succ, i64_w, i32_w]
             rfl
            refine pure_ (i := 15) (N := some 29) (v := ?_) (a' := ?_) #[true, true, false, true, true, false, true, true, false, true, true, false, false, false, true, true, false, false, false, false, false, false, false, false, false, false, false, false, false, false, false] rfl rfl (any_of HT_.out (by kernel_rfl)) (fun _ _ _ h => h) (Or.inl ⟨by rfl, ?_⟩) ?_ ?_
            rotate_left
            ·intro w'
             go_simp
             with_reducible rfl
            rotate_left
            ·simp only [Act.put, List.setIfInBounds_toArray, List.set_cons_zero, List.set_cons_succ, i64_w, i32_w]
             rfl
            refine pure_ (i := 19) (N := some 33) (v := ?_) (a' := ?_) #[true, true, false, true, true, false, true, true, false, true, true, false, false, false, true, true, false, false, false, true, false, false, false, false, false, false, false, false, false, false, false] rfl rfl (any_of HT_.out (by kernel_rfl)) (fun _ _ _ h => h) (Or.inl ⟨by rfl, ?_⟩) ?_ ?_
            rotate_left
            ·intro w'
             go_simp
             with_reducible rfl
            rotate_left
            ·simp only [Act.put, List.setIfInBounds_toArray, List.set_cons_zero, List.set_cons_succ, i64_w, i32_w]
             rfl
            refine pure_ (i := 20) (N := some 34) (v := ?_) (a' := ?_) #[true, true, false, true, true, false, true, true, false, true, true, false, false, false, true, true, false, false, false, true, true, false, false, false, false, false, false, false, false, false, false] rfl rfl (any_of HT_.out (by kernel_rfl)) (fun _ _ _ h => h) (Or.inl ⟨by rfl, ?_⟩) ?_ ?_
            rotate_left
            ·intro w'
             go_simp
             with_reducible rfl
            rotate_left
            ·simp only [Act.put, List.setIfInBounds_toArray, List.set_cons_zero, List.set_cons_succ, i64_w, i32_w]
             rfl
            refine pure_ (i := 22) (N := some 36) (v := ?_) (a' := ?_) #[true, true, false, true, true, false, true, true, false, true, true, false, false, false, true, true, false, false, false, true, true, false, true, false, false, false, false, false, false, false, false] rfl rfl (any_of HT_.out (by kernel_rfl)) (fun _ _ _ h => h) (Or.inl ⟨by rfl, ?_⟩) ?_ ?_
            rotate_left
            ·intro w'
             go_simp
             with_reducible rfl
            rotate_left
            ·simp only [Act.put, List.setIfInBounds_toArray, List.set_cons_zero, List.set_cons_succ, i64_w, i32_w]
             rfl
            refine pure_ (i := 23) (N := some 37) (v := ?_) (a' := ?_) #[true, true, false, true, true, false, true, true, false, true, true, false, false, false, true, true, false, false, false, true, true, false, true, true, false, false, false, false, false, false, false] rfl rfl (any_of HT_.out (by kernel_rfl)) (fun _ _ _ h => h) (Or.inl ⟨by rfl, ?_⟩) ?_ ?_
            rotate_left
            ·intro w'
             go_simp
             with_reducible rfl
            rotate_left
            ·simp only [Act.put, List.setIfInBounds_toArray, List.set_cons_zero, List.set_cons_succ, i64_w, i32_w]
             rfl
            refine pure_ (i := 25) (N := some 39) (v := ?_) (a' := ?_) #[true, true, false, true, true, false, true, true, false, true, true, false, false, false, true, true, false, false, false, true, true, false, true, true, false, true, false, false, false, false, false] rfl rfl (any_of HT_.out (by kernel_rfl)) (fun _ _ _ h => h) (Or.inl ⟨by rfl, ?_⟩) ?_ ?_
            rotate_left
            ·intro w'
             go_simp
             with_reducible rfl
            rotate_left
            ·simp only [Act.put, List.setIfInBounds_toArray, List.set_cons_zero, List.set_cons_succ, i64_w, i32_w]
             rfl
            refine pure_ (i := 26) (N := some 40) (v := ?_) (a' := ?_) #[true, true, false, true, true, false, true, true, false, true, true, false, false, false, true, true, false, false, false, true, true, false, true, true, false, true, true, false, false, false, false] rfl rfl (any_of HT_.out (by kernel_rfl)) (fun _ _ _ h => h) (Or.inl ⟨by rfl, ?_⟩) ?_ ?_
            rotate_left
            ·intro w'
             go_simp
             with_reducible rfl
            rotate_left
            ·simp only [Act.put, List.setIfInBounds_toArray, List.set_cons_zero, List.set_cons_succ, i64_w, i32_w]
             rfl
            refine take_ (i := 11) (N := some 25) (v := ?_) (a' := ?_) #[true, true, false, true, true, false, true, true, false, true, true, true, false, false, true, true, false, false, false, true, true, false, true, true, false, true, true, false, false, false, false] rfl rfl (take_ofW HT_.out HW_.out (by kernel_rfl)) (fun _ _ _ h => h) (Or.inl ⟨by rfl, ?_⟩) hHeld ?_ ?_
            rotate_left
            ·rintro w' ⟨s0, s1⟩
             go_simp
             with_reducible rfl
            rotate_left
            ·simp only [Act.put, List.setIfInBounds_toArray, List.set_cons_zero, List.set_cons_succ, i64_w, i32_w]
             rfl
            refine pure_ (i := 12) (N := some 26) (v := ?_) (a' := ?_) #[true, true, false, true, true, false, true, true, false, true, true, true, true, false, true, true, false, false, false, true, true, false, true, true, false, true, true, false, false, false, false] rfl rfl (any_of HT_.out (by kernel_rfl)) (fun _ _ _ h => h) (Or.inl ⟨by rfl, ?_⟩) ?_ ?_
            rotate_left
            ·intro w'
             go_simp
             with_reducible rfl
            rotate_left
            ·simp only [Act.put, List.setIfInBounds_toArray, List.set_cons_zero, List.set_cons_succ, i64_w, i32_w]
             rfl
            refine pure_ (i := 13) (N := some 27) (v := ?_) (a' := ?_) #[true, true, false, true, true, false, true, true, false, true, true, true, true, true, true, true, false, false, false, true, true, false, true, true, false, true, true, false, false, false, false] rfl rfl (any_of HT_.out (by kernel_rfl)) (fun _ _ _ h => h) (Or.inl ⟨by rfl, ?_⟩) ?_ ?_
            rotate_left
            ·intro w'
             go_simp
             with_reducible rfl
            rotate_left
            ·simp only [Act.put, List.setIfInBounds_toArray, List.set_cons_zero, List.set_cons_succ, i64_w, i32_w]
             rfl
            refine take_ (i := 16) (N := some 30) (v := ?_) (a' := ?_) #[true, true, false, true, true, false, true, true, false, true, true, true, true, true, true, true, true, false, false, true, true, false, true, true, false, true, true, false, false, false, false] rfl rfl (take_ofW HT_.out HW_.out (by kernel_rfl)) (fun _ _ _ h => h) (Or.inl ⟨by rfl, ?_⟩) hHeld ?_ ?_
            rotate_left
            ·rintro w' ⟨s0, s1⟩
             go_simp
             with_reducible rfl
            rotate_left
            ·simp only [Act.put, List.setIfInBounds_toArray, List.set_cons_zero, List.set_cons_succ, i64_w, i32_w]
             rfl
            refine pure_ (i := 17) (N := some 31) (v := ?_) (a' := ?_) #[true, true, false, true, true, false, true, true, false, true, true, true, true, true, true, true, true, true, false, true, true, false, true, true, false, true, true, false, false, false, false] rfl rfl (any_of HT_.out (by kernel_rfl)) (fun _ _ _ h => h) (Or.inl ⟨by rfl, ?_⟩) ?_ ?_
            rotate_left
            ·intro w'
             go_simp
             with_reducible rfl
            rotate_left
            ·simp only [Act.put, List.setIfInBounds_toArray, List.set_cons_zero, List.set_cons_succ, i64_w, i32_w]
             rfl
            refine pure_ (i := 18) (N := some 32) (v := ?_) (a' := ?_) #[true, true, false, true, true, false, true, true, false, true, true, true, true, true, true, true, true, true, true, true, true, false, true, true, false, true, true, false, false, false, false] rfl rfl (any_of HT_.out (by kernel_rfl)) (fun _ _ _ h => h) (Or.inl ⟨by rfl, ?_⟩) ?_ ?_
            rotate_left
            ·intro w'
             go_simp
             with_reducible rfl
            rotate_left
            ·simp only [Act.put, List.setIfInBounds_toArray, List.set_cons_zero, List.set_cons_succ, i64_w, i32_w]
             rfl
            refine join_ (σ := Nat) 1 #[true, true, true, true, true, true, true, true, true, true, true, true, true, true, true, true, true, true, true, true, true, true, true, true, true, true, true, true, true, true, false] (fun s_ => [(16, .int .i64 t294), (19, .int .i64 t300), (22, .int .i64 t306), (35, .int .i64 t314), (38, .int .i64 t320), (41, .int .i64 t326), (5, .pointer (some ⟨s_, 0, none⟩)), (42, .agg #[.int .i64 t294, .int .i64 t300, .int .i64 t306, .bool ((Go.bits .and .u8 (rd y284 4) 1) == 1), .int .i64 t314, .bool ((Go.bits .and .u8 (rd y284 4) 2) == 2), .int .i64 t320, .int .i64 t326])]) (fun s_ w' => (w'.cell? ⟨ad307.block, ad307.off + 4, none⟩ = some (.int .u8 (rd y284 4)) ∧ w'.cell? ⟨ad307.block, ad307.off + 4, none⟩ = some (.int .u8 (rd y284 4))) ∧ (Kd.V (Kd.int .u8) 5 w' w.heap.size (fun k_ => (P0_ k_ ∨ w.heap.size ≤ k_) ∧ some k_ ≠ (u3 : Value).ownBlock ∧ k_ ≠ s_) (.slice (some ad307) y284.length co26) y284) ∧ (Kd.V (Kd.int .u8) 5 w' w.heap.size (fun k_ => (P0_ k_ ∨ w.heap.size ≤ k_) ∧ some k_ ≠ (u3 : Value).ownBlock ∧ k_ ≠ s_) (.slice (some ad307) y289.length co26) y289) ∧ (Kd.V (Kd.int .u8) 5 w' w.heap.size (fun k_ => (P0_ k_ ∨ w.heap.size ≤ k_) ∧ some k_ ≠ (u3 : Value).ownBlock ∧ k_ ≠ s_) (.slice A30 y295.length c30) y295) ∧ (Kd.V (Kd.int .u8) 5 w' w.heap.size (fun k_ => (P0_ k_ ∨ w.heap.size ≤ k_) ∧ some k_ ≠ (u3 : Value).ownBlock ∧ k_ ≠ s_) (.slice A31 y301.length c31) y301) ∧ (Kd.V (Kd.int .u8) 5 w' w.heap.size (fun k_ => (P0_ k_ ∨ w.heap.size ≤ k_) ∧ some k_ ≠ (u3 : Value).ownBlock ∧ k_ ≠ s_) (.slice A32 y309.length c32) y309) ∧ (Kd.V (Kd.int .u8) 5 w' w.heap.size (fun k_ => (P0_ k_ ∨ w.heap.size ≤ k_) ∧ some k_ ≠ (u3 : Value).ownBlock ∧ k_ ≠ s_) (.slice A33 y315.length c33) y315) ∧ (Kd.V (Kd.int .u8) 5 w' w.heap.size (fun k_ => (P0_ k_ ∨ w.heap.size ≤ k_) ∧ some k_ ≠ (u3 : Value).ownBlock ∧ k_ ≠ s_) (.slice A34 y321.length c34) y321) ∧ (Kd.V (Kd.int .u8) 5 w' w.heap.size (fun k_ => (P0_ k_ ∨ w.heap.size ≤ k_) ∧ some k_ ≠ (u3 : Value).ownBlock ∧ k_ ≠ s_) (.slice (some ad307) x0_1.length co26) x0_1) ∧ (Kd.R k48 48 w' w.heap.size (fun k_ => (w.heap.size ≤ k_) ∧ k_ ≠ s_) u3 x3_1) ∧ (w'.heap[s_]? = some (.cells #[.int .i64 0, .int .i64 0, .int .i64 0, .bool false, .int .i64 0, .bool false, .int .i64 0, .int .i64 0] 48 (0, 0))) ∧ (w.heap.size ≤ s_) ∧ (w.heap.size ≤ s_) ∧ (Below w.heap.size w w')) ?_ ?_
            rotate_left
            ·intro hJ2_5_8_21_24_27_29
             refine join_ (σ := Unit) 2 #[true, true, true, true, true, true, true, true, true, true, true, true, true, true, true, true, true, true, true, true, true, true, true, true, true, true, true, true, true, false, false] (fun s_ => [(16, .int .i64 t294), (19, .int .i64 t300), (22, .int .i64 t306), (35, .int .i64 t314), (38, .int .i64 t320), (41, .int .i64 t326), (42, .agg #[.int .i64 t294, .int .i64 t300, .int .i64 t306, .bool ((Go.bits .and .u8 (rd y284 4) 1) == 1), .int .i64 t314, .bool ((Go.bits .and .u8 (rd y284 4) 2) == 2), .int .i64 t320, .int .i64 t326])]) (fun s_ w' => (w'.cell? ⟨ad307.block, ad307.off + 4, none⟩ = some (.int .u8 (rd y284 4)) ∧ w'.cell? ⟨ad307.block, ad307.off + 4, none⟩ = some (.int .u8 (rd y284 4))) ∧ (Kd.V (Kd.int .u8) 5 w' w.heap.size (fun k_ => (P0_ k_ ∨ w.heap.size ≤ k_) ∧ some k_ ≠ (u3 : Value).ownBlock) (.slice (some ad307) y284.length co26) y284) ∧ (Kd.V (Kd.int .u8) 5 w' w.heap.size (fun k_ => (P0_ k_ ∨ w.heap.size ≤ k_) ∧ some k_ ≠ (u3 : Value).ownBlock) (.slice (some ad307) y289.length co26) y289) ∧ (Kd.V (Kd.int .u8) 5 w' w.heap.size (fun k_ => (P0_ k_ ∨ w.heap.size ≤ k_) ∧ some k_ ≠ (u3 : Value).ownBlock) (.slice A30 y295.length c30) y295) ∧ (Kd.V (Kd.int .u8) 5 w' w.heap.size (fun k_ => (P0_ k_ ∨ w.heap.size ≤ k_) ∧ some k_ ≠ (u3 : Value).ownBlock) (.slice A31 y301.length c31) y301) ∧ (Kd.V (Kd.int .u8) 5 w' w.heap.size (fun k_ => (P0_ k_ ∨ w.heap.size ≤ k_) ∧ some k_ ≠ (u3 : Value).ownBlock) (.slice A32 y309.length c32) y309) ∧ (Kd.V (Kd.int .u8) 5 w' w.heap.size (fun k_ => (P0_ k_ ∨ w.heap.size ≤ k_) ∧ some k_ ≠ (u3 : Value).ownBlock) (.slice A33 y315.length c33) y315) ∧ (Kd.V (Kd.int .u8) 5 w' w.heap.size (fun k_ => (P0_ k_ ∨ w.heap.size ≤ k_) ∧ some k_ ≠ (u3 : Value).ownBlock) (.slice A34 y321.length c34) y321) ∧ (Kd.V (Kd.int .u8) 5 w' w.heap.size (fun k_ => (P0_ k_ ∨ w.heap.size ≤ k_) ∧ some k_ ≠ (u3 : Value).ownBlock) (.slice (some ad307) x0_1.length co26) x0_1) ∧ (Kd.R k48 48 w' w.heap.size (fun k_ => (w.heap.size ≤ k_)) u3 x3_1) ∧ (Below w.heap.size w w')) ?_ ?_
             rotate_left
             ·intro hJ2_5_8_21_24_27
              refine join_ (σ := Nat) 3 #[true, true, true, true, true, true, true, true, true, true, true, true, true, true, true, true, true, true, true, true, true, true, true, true, true, true, true, false, false, true, false] (fun s_ => [(16, .int .i64 t294), (19, .int .i64 t300), (22, .int .i64 t306), (35, .int .i64 t314), (38, .int .i64 t320), (5, .pointer (some ⟨s_, 0, none⟩))]) (fun s_ w' => (w'.cell? ⟨ad307.block, ad307.off + 4, none⟩ = some (.int .u8 (rd y284 4)) ∧ w'.cell? ⟨ad307.block, ad307.off + 4, none⟩ = some (.int .u8 (rd y284 4))) ∧ (Kd.V (Kd.int .u8) 5 w' w.heap.size (fun k_ => (P0_ k_ ∨ w.heap.size ≤ k_) ∧ some k_ ≠ (u3 : Value).ownBlock ∧ k_ ≠ s_) (.slice (some ad307) y284.length co26) y284) ∧ (Kd.V (Kd.int .u8) 5 w' w.heap.size (fun k_ => (P0_ k_ ∨ w.heap.size ≤ k_) ∧ some k_ ≠ (u3 : Value).ownBlock ∧ k_ ≠ s_) (.slice (some ad307) y289.length co26) y289) ∧ (Kd.V (Kd.int .u8) 5 w' w.heap.size (fun k_ => (P0_ k_ ∨ w.heap.size ≤ k_) ∧ some k_ ≠ (u3 : Value).ownBlock ∧ k_ ≠ s_) (.slice A30 y295.length c30) y295) ∧ (Kd.V (Kd.int .u8) 5 w' w.heap.size (fun k_ => (P0_ k_ ∨ w.heap.size ≤ k_) ∧ some k_ ≠ (u3 : Value).ownBlock ∧ k_ ≠ s_) (.slice A31 y301.length c31) y301) ∧ (Kd.V (Kd.int .u8) 5 w' w.heap.size (fun k_ => (P0_ k_ ∨ w.heap.size ≤ k_) ∧ some k_ ≠ (u3 : Value).ownBlock ∧ k_ ≠ s_) (.slice A32 y309.length c32) y309) ∧ (Kd.V (Kd.int .u8) 5 w' w.heap.size (fun k_ => (P0_ k_ ∨ w.heap.size ≤ k_) ∧ some k_ ≠ (u3 : Value).ownBlock ∧ k_ ≠ s_) (.slice A33 y315.length c33) y315) ∧ (Kd.V (Kd.int .u8) 5 w' w.heap.size (fun k_ => (P0_ k_ ∨ w.heap.size ≤ k_) ∧ some k_ ≠ (u3 : Value).ownBlock ∧ k_ ≠ s_) (.slice A34 y321.length c34) y321) ∧ (Kd.V (Kd.int .u8) 5 w' w.heap.size (fun k_ => (P0_ k_ ∨ w.heap.size ≤ k_) ∧ some k_ ≠ (u3 : Value).ownBlock ∧ k_ ≠ s_) (.slice (some ad307) x0_1.length co26) x0_1) ∧ (Kd.R k48 48 w' w.heap.size (fun k_ => (w.heap.size ≤ k_) ∧ k_ ≠ s_) u3 x3_1) ∧ (w'.heap[s_]? = some (.cells #[.int .i64 0, .int .i64 0, .int .i64 0, .bool false, .int .i64 0, .bool false, .int .i64 0, .int .i64 0] 48 (0, 0))) ∧ (w.heap.size ≤ s_) ∧ (w.heap.size ≤ s_) ∧ (Below w.heap.size w w')) ?_ ?_
              rotate_left
              ·intro hJ2_5_8_21_24_29
               refine join_ (σ := Unit) 4 #[true, true, true, true, true, true, true, true, true, true, true, true, true, true, true, true, true, true, true, true, true, true, true, true, true, true, true, false, false, false, false] (fun s_ => [(16, .int .i64 t294), (19, .int .i64 t300), (22, .int .i64 t306), (35, .int .i64 t314), (38, .int .i64 t320)]) (fun s_ w' => (w'.cell? ⟨ad307.block, ad307.off + 4, none⟩ = some (.int .u8 (rd y284 4)) ∧ w'.cell? ⟨ad307.block, ad307.off + 4, none⟩ = some (.int .u8 (rd y284 4))) ∧ (Kd.V (Kd.int .u8) 5 w' w.heap.size (fun k_ => (P0_ k_ ∨ w.heap.size ≤ k_) ∧ some k_ ≠ (u3 : Value).ownBlock) (.slice (some ad307) y284.length co26) y284) ∧ (Kd.V (Kd.int .u8) 5 w' w.heap.size (fun k_ => (P0_ k_ ∨ w.heap.size ≤ k_) ∧ some k_ ≠ (u3 : Value).ownBlock) (.slice (some ad307) y289.length co26) y289) ∧ (Kd.V (Kd.int .u8) 5 w' w.heap.size (fun k_ => (P0_ k_ ∨ w.heap.size ≤ k_) ∧ some k_ ≠ (u3 : Value).ownBlock) (.slice A30 y295.length c30) y295) ∧ (Kd.V (Kd.int .u8) 5 w' w.heap.size (fun k_ => (P0_ k_ ∨ w.heap.size ≤ k_) ∧ some k_ ≠ (u3 : Value).ownBlock) (.slice A31 y301.length c31) y301) ∧ (Kd.V (Kd.int .u8) 5 w' w.heap.size (fun k_ => (P0_ k_ ∨ w.heap.size ≤ k_) ∧ some k_ ≠ (u3 : Value).ownBlock) (.slice A32 y309.length c32) y309) ∧ (Kd.V (Kd.int .u8) 5 w' w.heap.size (fun k_ => (P0_ k_ ∨ w.heap.size ≤ k_) ∧ some k_ ≠ (u3 : Value).ownBlock) (.slice A33 y315.length c33) y315) ∧ (Kd.V (Kd.int .u8) 5 w' w.heap.size (fun k_ => (P0_ k_ ∨ w.heap.size ≤ k_) ∧ some k_ ≠ (u3 : Value).ownBlock) (.slice A34 y321.length c34) y321) ∧ (Kd.V (Kd.int .u8) 5 w' w.heap.size (fun k_ => (P0_ k_ ∨ w.heap.size ≤ k_) ∧ some k_ ≠ (u3 : Value).ownBlock) (.slice (some ad307) x0_1.length co26) x0_1) ∧ (Kd.R k48 48 w' w.heap.size (fun k_ => (w.heap.size ≤ k_)) u3 x3_1) ∧ (Below w.heap.size w w')) ?_ ?_
               rotate_left
               ·intro hJ2_5_8_21_24
                refine join_ (σ := Nat) 4 #[true, true, true, true, true, true, true, true, true, true, true, true, true, true, true, true, true, true, true, true, true, true, true, true, false, true, true, false, false, true, false] (fun s_ => [(16, .int .i64 t294), (19, .int .i64 t300), (22, .int .i64 t306), (35, .int .i64 t314), (5, .pointer (some ⟨s_, 0, none⟩))]) (fun s_ w' => (w'.cell? ⟨ad307.block, ad307.off + 4, none⟩ = some (.int .u8 (rd y284 4)) ∧ w'.cell? ⟨ad307.block, ad307.off + 4, none⟩ = some (.int .u8 (rd y284 4))) ∧ (Kd.V (Kd.int .u8) 5 w' w.heap.size (fun k_ => (P0_ k_ ∨ w.heap.size ≤ k_) ∧ some k_ ≠ (u3 : Value).ownBlock ∧ k_ ≠ s_) (.slice (some ad307) y284.length co26) y284) ∧ (Kd.V (Kd.int .u8) 5 w' w.heap.size (fun k_ => (P0_ k_ ∨ w.heap.size ≤ k_) ∧ some k_ ≠ (u3 : Value).ownBlock ∧ k_ ≠ s_) (.slice (some ad307) y289.length co26) y289) ∧ (Kd.V (Kd.int .u8) 5 w' w.heap.size (fun k_ => (P0_ k_ ∨ w.heap.size ≤ k_) ∧ some k_ ≠ (u3 : Value).ownBlock ∧ k_ ≠ s_) (.slice A30 y295.length c30) y295) ∧ (Kd.V (Kd.int .u8) 5 w' w.heap.size (fun k_ => (P0_ k_ ∨ w.heap.size ≤ k_) ∧ some k_ ≠ (u3 : Value).ownBlock ∧ k_ ≠ s_) (.slice A31 y301.length c31) y301) ∧ (Kd.V (Kd.int .u8) 5 w' w.heap.size (fun k_ => (P0_ k_ ∨ w.heap.size ≤ k_) ∧ some k_ ≠ (u3 : Value).ownBlock ∧ k_ ≠ s_) (.slice A32 y309.length c32) y309) ∧ (Kd.V (Kd.int .u8) 5 w' w.heap.size (fun k_ => (P0_ k_ ∨ w.heap.size ≤ k_) ∧ some k_ ≠ (u3 : Value).ownBlock ∧ k_ ≠ s_) (.slice A33 y315.length c33) y315) ∧ (Kd.V (Kd.int .u8) 5 w' w.heap.size (fun k_ => (P0_ k_ ∨ w.heap.size ≤ k_) ∧ some k_ ≠ (u3 : Value).ownBlock ∧ k_ ≠ s_) (.slice A34 y321.length c34) y321) ∧ (Kd.V (Kd.int .u8) 5 w' w.heap.size (fun k_ => (P0_ k_ ∨ w.heap.size ≤ k_) ∧ some k_ ≠ (u3 : Value).ownBlock ∧ k_ ≠ s_) (.slice (some ad307) x0_1.length co26) x0_1) ∧ (Kd.R k48 48 w' w.heap.size (fun k_ => (w.heap.size ≤ k_) ∧ k_ ≠ s_) u3 x3_1) ∧ (w'.heap[s_]? = some (.cells #[.int .i64 0, .int .i64 0, .int .i64 0, .bool false, .int .i64 0, .bool false, .int .i64 0, .int .i64 0] 48 (0, 0))) ∧ (w.heap.size ≤ s_) ∧ (w.heap.size ≤ s_) ∧ (Below w.heap.size w w')) ?_ ?_
                rotate_left
                ·intro hJ2_5_8_21_29
                 refine join_ (σ := Unit) 5 #[true, true, true, true, true, true, true, true, true, true, true, true, true, true, true, true, true, true, true, true, true, true, true, true, false, true, true, false, false, false, false] (fun s_ => [(16, .int .i64 t294), (19, .int .i64 t300), (22, .int .i64 t306), (35, .int .i64 t314)]) (fun s_ w' => (w'.cell? ⟨ad307.block, ad307.off + 4, none⟩ = some (.int .u8 (rd y284 4)) ∧ w'.cell? ⟨ad307.block, ad307.off + 4, none⟩ = some (.int .u8 (rd y284 4))) ∧ (Kd.V (Kd.int .u8) 5 w' w.heap.size (fun k_ => (P0_ k_ ∨ w.heap.size ≤ k_) ∧ some k_ ≠ (u3 : Value).ownBlock) (.slice (some ad307) y284.length co26) y284) ∧ (Kd.V (Kd.int .u8) 5 w' w.heap.size (fun k_ => (P0_ k_ ∨ w.heap.size ≤ k_) ∧ some k_ ≠ (u3 : Value).ownBlock) (.slice (some ad307) y289.length co26) y289) ∧ (Kd.V (Kd.int .u8) 5 w' w.heap.size (fun k_ => (P0_ k_ ∨ w.heap.size ≤ k_) ∧ some k_ ≠ (u3 : Value).ownBlock) (.slice A30 y295.length c30) y295) ∧ (Kd.V (Kd.int .u8) 5 w' w.heap.size (fun k_ => (P0_ k_ ∨ w.heap.size ≤ k_) ∧ some k_ ≠ (u3 : Value).ownBlock) (.slice A31 y301.length c31) y301) ∧ (Kd.V (Kd.int .u8) 5 w' w.heap.size (fun k_ => (P0_ k_ ∨ w.heap.size ≤ k_) ∧ some k_ ≠ (u3 : Value).ownBlock) (.slice A32 y309.length c32) y309) ∧ (Kd.V (Kd.int .u8) 5 w' w.heap.size (fun k_ => (P0_ k_ ∨ w.heap.size ≤ k_) ∧ some k_ ≠ (u3 : Value).ownBlock) (.slice A33 y315.length c33) y315) ∧ (Kd.V (Kd.int .u8) 5 w' w.heap.size (fun k_ => (P0_ k_ ∨ w.heap.size ≤ k_) ∧ some k_ ≠ (u3 : Value).ownBlock) (.slice A34 y321.length c34) y321) ∧ (Kd.V (Kd.int .u8) 5 w' w.heap.size (fun k_ => (P0_ k_ ∨ w.heap.size ≤ k_) ∧ some k_ ≠ (u3 : Value).ownBlock) (.slice (some ad307) x0_1.length co26) x0_1) ∧ (Kd.R k48 48 w' w.heap.size (fun k_ => (w.heap.size ≤ k_)) u3 x3_1) ∧ (Below w.heap.size w w')) ?_ ?_
                 rotate_left
                 ·intro hJ2_5_8_21
                  refine join_ (σ := Nat) 5 #[true, true, true, true, true, true, true, true, true, true, true, true, true, true, true, true, true, true, true, true, true, false, true, true, false, true, true, false, false, true, false] (fun s_ => [(16, .int .i64 t294), (19, .int .i64 t300), (22, .int .i64 t306), (5, .pointer (some ⟨s_, 0, none⟩))]) (fun s_ w' => (w'.cell? ⟨ad307.block, ad307.off + 4, none⟩ = some (.int .u8 (rd y284 4)) ∧ w'.cell? ⟨ad307.block, ad307.off + 4, none⟩ = some (.int .u8 (rd y284 4))) ∧ (Kd.V (Kd.int .u8) 5 w' w.heap.size (fun k_ => (P0_ k_ ∨ w.heap.size ≤ k_) ∧ some k_ ≠ (u3 : Value).ownBlock ∧ k_ ≠ s_) (.slice (some ad307) y284.length co26) y284) ∧ (Kd.V (Kd.int .u8) 5 w' w.heap.size (fun k_ => (P0_ k_ ∨ w.heap.size ≤ k_) ∧ some k_ ≠ (u3 : Value).ownBlock ∧ k_ ≠ s_) (.slice (some ad307) y289.length co26) y289) ∧ (Kd.V (Kd.int .u8) 5 w' w.heap.size (fun k_ => (P0_ k_ ∨ w.heap.size ≤ k_) ∧ some k_ ≠ (u3 : Value).ownBlock ∧ k_ ≠ s_) (.slice A30 y295.length c30) y295) ∧ (Kd.V (Kd.int .u8) 5 w' w.heap.size (fun k_ => (P0_ k_ ∨ w.heap.size ≤ k_) ∧ some k_ ≠ (u3 : Value).ownBlock ∧ k_ ≠ s_) (.slice A31 y301.length c31) y301) ∧ (Kd.V (Kd.int .u8) 5 w' w.heap.size (fun k_ => (P0_ k_ ∨ w.heap.size ≤ k_) ∧ some k_ ≠ (u3 : Value).ownBlock ∧ k_ ≠ s_) (.slice A32 y309.length c32) y309) ∧ (Kd.V (Kd.int .u8) 5 w' w.heap.size (fun k_ => (P0_ k_ ∨ w.heap.size ≤ k_) ∧ some k_ ≠ (u3 : Value).ownBlock ∧ k_ ≠ s_) (.slice A33 y315.length c33) y315) ∧ (Kd.V (Kd.int .u8) 5 w' w.heap.size (fun k_ => (P0_ k_ ∨ w.heap.size ≤ k_) ∧ some k_ ≠ (u3 : Value).ownBlock ∧ k_ ≠ s_) (.slice A34 y321.length c34) y321) ∧ (Kd.V (Kd.int .u8) 5 w' w.heap.size (fun k_ => (P0_ k_ ∨ w.heap.size ≤ k_) ∧ some k_ ≠ (u3 : Value).ownBlock ∧ k_ ≠ s_) (.slice (some ad307) x0_1.length co26) x0_1) ∧ (Kd.R k48 48 w' w.heap.size (fun k_ => (w.heap.size ≤ k_) ∧ k_ ≠ s_) u3 x3_1) ∧ (w'.heap[s_]? = some (.cells #[.int .i64 0, .int .i64 0, .int .i64 0, .bool false, .int .i64 0, .bool false, .int .i64 0, .int .i64 0] 48 (0, 0))) ∧ (w.heap.size ≤ s_) ∧ (w.heap.size ≤ s_) ∧ (Below w.heap.size w w')) ?_ ?_
                  rotate_left
                  ·intro hJ2_5_8_29
                   refine join_ (σ := Unit) 6 #[true, true, true, true, true, true, true, true, true, true, true, true, true, true, true, true, true, true, true, true, true, false, true, true, false, true, true, false, false, false, false] (fun s_ => [(16, .int .i64 t294), (19, .int .i64 t300), (22, .int .i64 t306)]) (fun s_ w' => (w'.cell? ⟨ad307.block, ad307.off + 4, none⟩ = some (.int .u8 (rd y284 4)) ∧ w'.cell? ⟨ad307.block, ad307.off + 4, none⟩ = some (.int .u8 (rd y284 4))) ∧ (Kd.V (Kd.int .u8) 5 w' w.heap.size (fun k_ => (P0_ k_ ∨ w.heap.size ≤ k_) ∧ some k_ ≠ (u3 : Value).ownBlock) (.slice (some ad307) y284.length co26) y284) ∧ (Kd.V (Kd.int .u8) 5 w' w.heap.size (fun k_ => (P0_ k_ ∨ w.heap.size ≤ k_) ∧ some k_ ≠ (u3 : Value).ownBlock) (.slice (some ad307) y289.length co26) y289) ∧ (Kd.V (Kd.int .u8) 5 w' w.heap.size (fun k_ => (P0_ k_ ∨ w.heap.size ≤ k_) ∧ some k_ ≠ (u3 : Value).ownBlock) (.slice A30 y295.length c30) y295) ∧ (Kd.V (Kd.int .u8) 5 w' w.heap.size (fun k_ => (P0_ k_ ∨ w.heap.size ≤ k_) ∧ some k_ ≠ (u3 : Value).ownBlock) (.slice A31 y301.length c31) y301) ∧ (Kd.V (Kd.int .u8) 5 w' w.heap.size (fun k_ => (P0_ k_ ∨ w.heap.size ≤ k_) ∧ some k_ ≠ (u3 : Value).ownBlock) (.slice A32 y309.length c32) y309) ∧ (Kd.V (Kd.int .u8) 5 w' w.heap.size (fun k_ => (P0_ k_ ∨ w.heap.size ≤ k_) ∧ some k_ ≠ (u3 : Value).ownBlock) (.slice A33 y315.length c33) y315) ∧ (Kd.V (Kd.int .u8) 5 w' w.heap.size (fun k_ => (P0_ k_ ∨ w.heap.size ≤ k_) ∧ some k_ ≠ (u3 : Value).ownBlock) (.slice A34 y321.length c34) y321) ∧ (Kd.V (Kd.int .u8) 5 w' w.heap.size (fun k_ => (P0_ k_ ∨ w.heap.size ≤ k_) ∧ some k_ ≠ (u3 : Value).ownBlock) (.slice (some ad307) x0_1.length co26) x0_1) ∧ (Kd.R k48 48 w' w.heap.size (fun k_ => (w.heap.size ≤ k_)) u3 x3_1) ∧ (Below w.heap.size w w')) ?_ ?_
                   rotate_left
                   ·intro hJ2_5_8
                    refine join_ (σ := Nat) 6 #[true, true, true, true, true, true, true, true, false, true, true, true, true, true, true, true, true, true, true, true, true, false, true, true, false, true, true, false, false, true, false] (fun s_ => [(16, .int .i64 t294), (19, .int .i64 t300), (5, .pointer (some ⟨s_, 0, none⟩))]) (fun s_ w' => (w'.cell? ⟨ad307.block, ad307.off + 4, none⟩ = some (.int .u8 (rd y284 4)) ∧ w'.cell? ⟨ad307.block, ad307.off + 4, none⟩ = some (.int .u8 (rd y284 4))) ∧ (Kd.V (Kd.int .u8) 5 w' w.heap.size (fun k_ => (P0_ k_ ∨ w.heap.size ≤ k_) ∧ some k_ ≠ (u3 : Value).ownBlock ∧ k_ ≠ s_) (.slice (some ad307) y284.length co26) y284) ∧ (Kd.V (Kd.int .u8) 5 w' w.heap.size (fun k_ => (P0_ k_ ∨ w.heap.size ≤ k_) ∧ some k_ ≠ (u3 : Value).ownBlock ∧ k_ ≠ s_) (.slice (some ad307) y289.length co26) y289) ∧ (Kd.V (Kd.int .u8) 5 w' w.heap.size (fun k_ => (P0_ k_ ∨ w.heap.size ≤ k_) ∧ some k_ ≠ (u3 : Value).ownBlock ∧ k_ ≠ s_) (.slice A30 y295.length c30) y295) ∧ (Kd.V (Kd.int .u8) 5 w' w.heap.size (fun k_ => (P0_ k_ ∨ w.heap.size ≤ k_) ∧ some k_ ≠ (u3 : Value).ownBlock ∧ k_ ≠ s_) (.slice A31 y301.length c31) y301) ∧ (Kd.V (Kd.int .u8) 5 w' w.heap.size (fun k_ => (P0_ k_ ∨ w.heap.size ≤ k_) ∧ some k_ ≠ (u3 : Value).ownBlock ∧ k_ ≠ s_) (.slice A32 y309.length c32) y309) ∧ (Kd.V (Kd.int .u8) 5 w' w.heap.size (fun k_ => (P0_ k_ ∨ w.heap.size ≤ k_) ∧ some k_ ≠ (u3 : Value).ownBlock ∧ k_ ≠ s_) (.slice A33 y315.length c33) y315) ∧ (Kd.V (Kd.int .u8) 5 w' w.heap.size (fun k_ => (P0_ k_ ∨ w.heap.size ≤ k_) ∧ some k_ ≠ (u3 : Value).ownBlock ∧ k_ ≠ s_) (.slice A34 y321.length c34) y321) ∧ (Kd.V (Kd.int .u8) 5 w' w.heap.size (fun k_ => (P0_ k_ ∨ w.heap.size ≤ k_) ∧ some k_ ≠ (u3 : Value).ownBlock ∧ k_ ≠ s_) (.slice (some ad307) x0_1.length co26) x0_1) ∧ (Kd.R k48 48 w' w.heap.size (fun k_ => (w.heap.size ≤ k_) ∧ k_ ≠ s_) u3 x3_1) ∧ (w'.heap[s_]? = some (.cells #[.int .i64 0, .int .i64 0, .int .i64 0, .bool false, .int .i64 0, .bool false, .int .i64 0, .int .i64 0] 48 (0, 0))) ∧ (w.heap.size ≤ s_) ∧ (w.heap.size ≤ s_) ∧ (Below w.heap.size w w')) ?_ ?_
                    rotate_left
                    ·intro hJ2_5_29
                     refine join_ (σ := Unit) 7 #[true, true, true, true, true, true, true, true, false, true, true, true, true, true, true, true, true, true, true, true, true, false, true, true, false, true, true, false, false, false, false] (fun s_ => [(16, .int .i64 t294), (19, .int .i64 t300)]) (fun s_ w' => (w'.cell? ⟨ad307.block, ad307.off + 4, none⟩ = some (.int .u8 (rd y284 4)) ∧ w'.cell? ⟨ad307.block, ad307.off + 4, none⟩ = some (.int .u8 (rd y284 4))) ∧ (Kd.V (Kd.int .u8) 5 w' w.heap.size (fun k_ => (P0_ k_ ∨ w.heap.size ≤ k_) ∧ some k_ ≠ (u3 : Value).ownBlock) (.slice (some ad307) y284.length co26) y284) ∧ (Kd.V (Kd.int .u8) 5 w' w.heap.size (fun k_ => (P0_ k_ ∨ w.heap.size ≤ k_) ∧ some k_ ≠ (u3 : Value).ownBlock) (.slice (some ad307) y289.length co26) y289) ∧ (Kd.V (Kd.int .u8) 5 w' w.heap.size (fun k_ => (P0_ k_ ∨ w.heap.size ≤ k_) ∧ some k_ ≠ (u3 : Value).ownBlock) (.slice A30 y295.length c30) y295) ∧ (Kd.V (Kd.int .u8) 5 w' w.heap.size (fun k_ => (P0_ k_ ∨ w.heap.size ≤ k_) ∧ some k_ ≠ (u3 : Value).ownBlock) (.slice A31 y301.length c31) y301) ∧ (Kd.V (Kd.int .u8) 5 w' w.heap.size (fun k_ => (P0_ k_ ∨ w.heap.size ≤ k_) ∧ some k_ ≠ (u3 : Value).ownBlock) (.slice A32 y309.length c32) y309) ∧ (Kd.V (Kd.int .u8) 5 w' w.heap.size (fun k_ => (P0_ k_ ∨ w.heap.size ≤ k_) ∧ some k_ ≠ (u3 : Value).ownBlock) (.slice A33 y315.length c33) y315) ∧ (Kd.V (Kd.int .u8) 5 w' w.heap.size (fun k_ => (P0_ k_ ∨ w.heap.size ≤ k_) ∧ some k_ ≠ (u3 : Value).ownBlock) (.slice A34 y321.length c34) y321) ∧ (Kd.V (Kd.int .u8) 5 w' w.heap.size (fun k_ => (P0_ k_ ∨ w.heap.size ≤ k_) ∧ some k_ ≠ (u3 : Value).ownBlock) (.slice (some ad307) x0_1.length co26) x0_1) ∧ (Kd.R k48 48 w' w.heap.size (fun k_ => (w.heap.size ≤ k_)) u3 x3_1) ∧ (Below w.heap.size w w')) ?_ ?_
                     rotate_left
                     ·intro hJ2_5
                      refine join_ (σ := Nat) 7 #[true, true, true, true, true, false, true, true, false, true, true, true, true, true, true, true, true, true, true, true, true, false, true, true, false, true, true, false, false, true, false] (fun s_ => [(16, .int .i64 t294), (5, .pointer (some ⟨s_, 0, none⟩))]) (fun s_ w' => (w'.cell? ⟨ad307.block, ad307.off + 4, none⟩ = some (.int .u8 (rd y284 4)) ∧ w'.cell? ⟨ad307.block, ad307.off + 4, none⟩ = some (.int .u8 (rd y284 4))) ∧ (Kd.V (Kd.int .u8) 5 w' w.heap.size (fun k_ => (P0_ k_ ∨ w.heap.size ≤ k_) ∧ some k_ ≠ (u3 : Value).ownBlock ∧ k_ ≠ s_) (.slice (some ad307) y284.length co26) y284) ∧ (Kd.V (Kd.int .u8) 5 w' w.heap.size (fun k_ => (P0_ k_ ∨ w.heap.size ≤ k_) ∧ some k_ ≠ (u3 : Value).ownBlock ∧ k_ ≠ s_) (.slice (some ad307) y289.length co26) y289) ∧ (Kd.V (Kd.int .u8) 5 w' w.heap.size (fun k_ => (P0_ k_ ∨ w.heap.size ≤ k_) ∧ some k_ ≠ (u3 : Value).ownBlock ∧ k_ ≠ s_) (.slice A30 y295.length c30) y295) ∧ (Kd.V (Kd.int .u8) 5 w' w.heap.size (fun k_ => (P0_ k_ ∨ w.heap.size ≤ k_) ∧ some k_ ≠ (u3 : Value).ownBlock ∧ k_ ≠ s_) (.slice A31 y301.length c31) y301) ∧ (Kd.V (Kd.int .u8) 5 w' w.heap.size (fun k_ => (P0_ k_ ∨ w.heap.size ≤ k_) ∧ some k_ ≠ (u3 : Value).ownBlock ∧ k_ ≠ s_) (.slice A32 y309.length c32) y309) ∧ (Kd.V (Kd.int .u8) 5 w' w.heap.size (fun k_ => (P0_ k_ ∨ w.heap.size ≤ k_) ∧ some k_ ≠ (u3 : Value).ownBlock ∧ k_ ≠ s_) (.slice A33 y315.length c33) y315) ∧ (Kd.V (Kd.int .u8) 5 w' w.heap.size (fun k_ => (P0_ k_ ∨ w.heap.size ≤ k_) ∧ some k_ ≠ (u3 : Value).ownBlock ∧ k_ ≠ s_) (.slice A34 y321.length c34) y321) ∧ (Kd.V (Kd.int .u8) 5 w' w.heap.size (fun k_ => (P0_ k_ ∨ w.heap.size ≤ k_) ∧ some k_ ≠ (u3 : Value).ownBlock ∧ k_ ≠ s_) (.slice (some ad307) x0_1.length co26) x0_1) ∧ (Kd.R k48 48 w' w.heap.size (fun k_ => (w.heap.size ≤ k_) ∧ k_ ≠ s_) u3 x3_1) ∧ (w'.heap[s_]? = some (.cells #[.int .i64 0, .int .i64 0, .int .i64 0, .bool false, .int .i64 0, .bool false, .int .i64 0, .int .i64 0] 48 (0, 0))) ∧ (w.heap.size ≤ s_) ∧ (w.heap.size ≤ s_) ∧ (Below w.heap.size w w')) ?_ ?_
                      rotate_left
                      ·intro hJ2_29
                       refine join_ (σ := Unit) 8 #[true, true, true, true, true, false, true, true, false, true, true, true, true, true, true, true, true, true, true, true, true, false, true, true, false, true, true, false, false, false, false] (fun s_ => [(16, .int .i64 t294)]) (fun s_ w' => (w'.cell? ⟨ad307.block, ad307.off + 4, none⟩ = some (.int .u8 (rd y284 4)) ∧ w'.cell? ⟨ad307.block, ad307.off + 4, none⟩ = some (.int .u8 (rd y284 4))) ∧ (Kd.V (Kd.int .u8) 5 w' w.heap.size (fun k_ => (P0_ k_ ∨ w.heap.size ≤ k_) ∧ some k_ ≠ (u3 : Value).ownBlock) (.slice (some ad307) y284.length co26) y284) ∧ (Kd.V (Kd.int .u8) 5 w' w.heap.size (fun k_ => (P0_ k_ ∨ w.heap.size ≤ k_) ∧ some k_ ≠ (u3 : Value).ownBlock) (.slice (some ad307) y289.length co26) y289) ∧ (Kd.V (Kd.int .u8) 5 w' w.heap.size (fun k_ => (P0_ k_ ∨ w.heap.size ≤ k_) ∧ some k_ ≠ (u3 : Value).ownBlock) (.slice A30 y295.length c30) y295) ∧ (Kd.V (Kd.int .u8) 5 w' w.heap.size (fun k_ => (P0_ k_ ∨ w.heap.size ≤ k_) ∧ some k_ ≠ (u3 : Value).ownBlock) (.slice A31 y301.length c31) y301) ∧ (Kd.V (Kd.int .u8) 5 w' w.heap.size (fun k_ => (P0_ k_ ∨ w.heap.size ≤ k_) ∧ some k_ ≠ (u3 : Value).ownBlock) (.slice A32 y309.length c32) y309) ∧ (Kd.V (Kd.int .u8) 5 w' w.heap.size (fun k_ => (P0_ k_ ∨ w.heap.size ≤ k_) ∧ some k_ ≠ (u3 : Value).ownBlock) (.slice A33 y315.length c33) y315) ∧ (Kd.V (Kd.int .u8) 5 w' w.heap.size (fun k_ => (P0_ k_ ∨ w.heap.size ≤ k_) ∧ some k_ ≠ (u3 : Value).ownBlock) (.slice A34 y321.length c34) y321) ∧ (Kd.V (Kd.int .u8) 5 w' w.heap.size (fun k_ => (P0_ k_ ∨ w.heap.size ≤ k_) ∧ some k_ ≠ (u3 : Value).ownBlock) (.slice (some ad307) x0_1.length co26) x0_1) ∧ (Kd.R k48 48 w' w.heap.size (fun k_ => (w.heap.size ≤ k_)) u3 x3_1) ∧ (Below w.heap.size w w')) ?_ ?_
                       rotate_left
                       ·intro hJ2
                        refine join_ (σ := Nat) 8 #[true, true, false, true, true, false, true, true, false, true, true, true, true, true, true, true, true, true, true, true, true, false, true, true, false, true, true, false, false, true, false] (fun s_ => [(5, .pointer (some ⟨s_, 0, none⟩))]) (fun s_ w' => (w'.cell? ⟨ad307.block, ad307.off + 4, none⟩ = some (.int .u8 (rd y284 4)) ∧ w'.cell? ⟨ad307.block, ad307.off + 4, none⟩ = some (.int .u8 (rd y284 4))) ∧ (Kd.V (Kd.int .u8) 5 w' w.heap.size (fun k_ => (P0_ k_ ∨ w.heap.size ≤ k_) ∧ some k_ ≠ (u3 : Value).ownBlock ∧ k_ ≠ s_) (.slice (some ad307) y284.length co26) y284) ∧ (Kd.V (Kd.int .u8) 5 w' w.heap.size (fun k_ => (P0_ k_ ∨ w.heap.size ≤ k_) ∧ some k_ ≠ (u3 : Value).ownBlock ∧ k_ ≠ s_) (.slice (some ad307) y289.length co26) y289) ∧ (Kd.V (Kd.int .u8) 5 w' w.heap.size (fun k_ => (P0_ k_ ∨ w.heap.size ≤ k_) ∧ some k_ ≠ (u3 : Value).ownBlock ∧ k_ ≠ s_) (.slice A30 y295.length c30) y295) ∧ (Kd.V (Kd.int .u8) 5 w' w.heap.size (fun k_ => (P0_ k_ ∨ w.heap.size ≤ k_) ∧ some k_ ≠ (u3 : Value).ownBlock ∧ k_ ≠ s_) (.slice A31 y301.length c31) y301) ∧ (Kd.V (Kd.int .u8) 5 w' w.heap.size (fun k_ => (P0_ k_ ∨ w.heap.size ≤ k_) ∧ some k_ ≠ (u3 : Value).ownBlock ∧ k_ ≠ s_) (.slice A32 y309.length c32) y309) ∧ (Kd.V (Kd.int .u8) 5 w' w.heap.size (fun k_ => (P0_ k_ ∨ w.heap.size ≤ k_) ∧ some k_ ≠ (u3 : Value).ownBlock ∧ k_ ≠ s_) (.slice A33 y315.length c33) y315) ∧ (Kd.V (Kd.int .u8) 5 w' w.heap.size (fun k_ => (P0_ k_ ∨ w.heap.size ≤ k_) ∧ some k_ ≠ (u3 : Value).ownBlock ∧ k_ ≠ s_) (.slice A34 y321.length c34) y321) ∧ (Kd.V (Kd.int .u8) 5 w' w.heap.size (fun k_ => (P0_ k_ ∨ w.heap.size ≤ k_) ∧ some k_ ≠ (u3 : Value).ownBlock ∧ k_ ≠ s_) (.slice (some ad307) x0_1.length co26) x0_1) ∧ (Kd.R k48 48 w' w.heap.size (fun k_ => (w.heap.size ≤ k_) ∧ k_ ≠ s_) u3 x3_1) ∧ (w'.heap[s_]? = some (.cells #[.int .i64 0, .int .i64 0, .int .i64 0, .bool false, .int .i64 0, .bool false, .int .i64 0, .int .i64 0] 48 (0, 0))) ∧ (w.heap.size ≤ s_) ∧ (w.heap.size ≤ s_) ∧ (Below w.heap.size w w')) ?_ ?_
                        rotate_left
                        ·intro hJ29
                         refine two_ (i := 2) (j := 29) (Ni := some 16) (Nj := some 5) #[true, true, true, true, true, false, true, true, false, true, true, true, true, true, true, true, true, true, true, true, true, false, true, true, false, true, true, false, false, false, false] #[true, true, false, true, true, false, true, true, false, true, true, true, true, true, true, true, true, true, true, true, true, false, true, true, false, true, true, false, false, true, false] rfl rfl rfl rfl (two_of HT_.out (by kernel_rfl)) (by decide) (by decide) (fun K hK => ?_) (fun K hK => ?_)
                         ·skip
                          refine goes_ Try.func81 (by kernel_rfl) rfl #[.slice (some ad307) y289.length co26] (by rfl) rfl rfl (by (try simp only [List.map_toArray, List.map_cons, List.map_nil]); first | done | rfl | (simp only [List.length_drop, List.length_take]; rfl)) ?_
                          with_reducible refine (impl_take.calls k1 _ _ y289 t294 _ ?side1 ?side2 A7.out).mono ?_
                          (case side1 => repeat (first | exact (Kd.V_reads' HO293.out).2.2 | (with_reducible refine Kd.C_alloc ?_ _) | (with_reducible refine Kd.C_drewN ?_ _) | (with_reducible refine Kd.C_drew ?_)))
                          (case side2 => exact (Kd.V_reads' HO293.out).2.1)
                          rintro e w' ⟨rfl, ⟨nd, rfl⟩⟩
                          refine ⟨_, rfl, ?_⟩
                          refine hK.out _ _ ⟨hHeld.1, hHeld.2⟩ (fun hHeld => ?_)
                          clear hK K
                          refine norm_ (a' := ?_) ?_ ?_
                          rotate_left
                          ·show Act.put _ (some 16) _ = _
                           simp only [Act.put, List.setIfInBounds_toArray, List.set_cons_zero, List.set_cons_succ, i64_w, i32_w]
                           rfl
                          exact norm_ (by first | (simp only [putAll, Act.put, List.setIfInBounds_toArray, List.set_cons_zero, List.set_cons_succ]; done) | (simp only [putAll, Act.put, List.setIfInBounds_toArray, List.set_cons_zero, List.set_cons_succ]; rfl)) (hJ2 () _ ⟨hHeld, (by (with_reducible repeat (first | apply Kd.V_alloc | apply Kd.V_drewN | apply Kd.V_drew)); exact HO288.out), (by (with_reducible repeat (first | apply Kd.V_alloc | apply Kd.V_drewN | apply Kd.V_drew)); exact HO293.out), (by (with_reducible repeat (first | apply Kd.V_alloc | apply Kd.V_drewN | apply Kd.V_drew)); exact HO299.out), (by (with_reducible repeat (first | apply Kd.V_alloc | apply Kd.V_drewN | apply Kd.V_drew)); exact HO305.out), (by (with_reducible repeat (first | apply Kd.V_alloc | apply Kd.V_drewN | apply Kd.V_drew)); exact HO313.out), (by (with_reducible repeat (first | apply Kd.V_alloc | apply Kd.V_drewN | apply Kd.V_drew)); exact HO319.out), (by (with_reducible repeat (first | apply Kd.V_alloc | apply Kd.V_drewN | apply Kd.V_drew)); exact HO325.out), (by (with_reducible repeat (first | apply Kd.V_alloc | apply Kd.V_drewN | apply Kd.V_drew)); exact HO_0.out), (by (with_reducible repeat (first | apply Kd.R_alloc | apply Kd.R_drewN | apply Kd.R_drew)); exact HO_3.out), (by repeat (first | (with_reducible first | exact HB.out | apply below_alloc | apply pw_below_drewN | apply below_drew1) | exact HB.out))⟩)
                         ·skip
                          refine box_step ?hg (N := 5) ?hd (cs := #[.int .i64 0, .int .i64 0, .int .i64 0, .bool false, .int .i64 0, .bool false, .int .i64 0, .int .i64 0]) (t := 48) ?hr ?_; (case hd => rfl); (case hg => rfl); (case hr => first | (go_simp; done) | (go_simp; rfl))
                          intro gb327 hg w35 hbox hb
                          have HS0_ := (hb.cell (World.block_lt_of_cell? _ _ (hHeld.1))).trans (hHeld.1)
                          have HS1_ := (hb.cell (World.block_lt_of_cell? _ _ (hHeld.2))).trans (hHeld.2)
                          have n0_ := Aside0.mk (Kd.V_below (Kd.V_elderB (by (with_reducible repeat (first | apply Kd.V_alloc | apply Kd.V_drewN | apply Kd.V_drew)); exact HO_0.out) gb327 (Nat.le_of_eq hg.symm)) hb)
                          have n1_ := Aside0.mk (Kd.R_below (Kd.R_elderB (by (with_reducible repeat (first | apply Kd.R_alloc | apply Kd.R_drewN | apply Kd.R_drew)); exact HO_3.out) gb327 (Nat.le_of_eq hg.symm)) hb)
                          have n2_ := Aside0.mk (Kd.V_below (Kd.V_elderB (by (with_reducible repeat (first | apply Kd.V_alloc | apply Kd.V_drewN | apply Kd.V_drew)); exact HO288.out) gb327 (Nat.le_of_eq hg.symm)) hb)
                          have n3_ := Aside0.mk (Kd.V_below (Kd.V_elderB (by (with_reducible repeat (first | apply Kd.V_alloc | apply Kd.V_drewN | apply Kd.V_drew)); exact HO293.out) gb327 (Nat.le_of_eq hg.symm)) hb)
                          have n4_ := Aside0.mk (Kd.V_below (Kd.V_elderB (by (with_reducible repeat (first | apply Kd.V_alloc | apply Kd.V_drewN | apply Kd.V_drew)); exact HO299.out) gb327 (Nat.le_of_eq hg.symm)) hb)
                          have n5_ := Aside0.mk (Kd.V_below (Kd.V_elderB (by (with_reducible repeat (first | apply Kd.V_alloc | apply Kd.V_drewN | apply Kd.V_drew)); exact HO305.out) gb327 (Nat.le_of_eq hg.symm)) hb)
                          have n6_ := Aside0.mk (Kd.V_below (Kd.V_elderB (by (with_reducible repeat (first | apply Kd.V_alloc | apply Kd.V_drewN | apply Kd.V_drew)); exact HO313.out) gb327 (Nat.le_of_eq hg.symm)) hb)
                          have n7_ := Aside0.mk (Kd.V_below (Kd.V_elderB (by (with_reducible repeat (first | apply Kd.V_alloc | apply Kd.V_drewN | apply Kd.V_drew)); exact HO319.out) gb327 (Nat.le_of_eq hg.symm)) hb)
                          have n8_ := Aside0.mk (Kd.V_below (Kd.V_elderB (by (with_reducible repeat (first | apply Kd.V_alloc | apply Kd.V_drewN | apply Kd.V_drew)); exact HO325.out) gb327 (Nat.le_of_eq hg.symm)) hb)
                          have n9_ := Aside0.mk (below_step (by repeat (first | (with_reducible first | exact HB.out | apply below_alloc | apply pw_below_drewN | apply below_drew1) | exact HB.out)) hb)
                          have n10_ := Aside0.mk (hbox)
                          have n11_ := Aside0.mk ((by rw [hg]; exact (below_size (by repeat (first | (with_reducible first | exact HB.out | apply below_alloc | apply pw_below_drewN | apply below_drew1) | exact HB.out))) : w.heap.size ≤ gb327))
                          have n12_ := Aside0.mk ((by rw [hg]; exact (below_size (by repeat (first | (with_reducible first | exact HB.out | apply below_alloc | apply pw_below_drewN | apply below_drew1) | exact HB.out))) : w.heap.size ≤ gb327))
                          clear HO_0
                          clear HO_3
                          clear HO288
                          clear HO293
                          clear HO299
                          clear HO305
                          clear HO313
                          clear HO319
                          clear HO325
                          clear HB
                          have HO_0 := n0_
                          have HO_3 := n1_
                          have HO288 := n2_
                          have HO293 := n3_
                          have HO299 := n4_
                          have HO305 := n5_
                          have HO313 := n6_
                          have HO319 := n7_
                          have HO325 := n8_
                          have HB := n9_
                          have BK327 := n10_
                          have GW327 := n11_
                          have GE327 := n12_
                          clear n0_ n1_ n2_ n3_ n4_ n5_ n6_ n7_ n8_ n9_ n10_ n11_ n12_
                          clear hb hbox hg
                          refine hK.out _ _ ⟨HS0_, HS1_⟩ (fun hHeld => ?_)
                          clear hK K
                          refine norm_ (a' := ?_) ?_ ?_
                          rotate_left
                          ·show Act.put _ (some 5) _ = _
                           simp only [Act.put, List.setIfInBounds_toArray, List.set_cons_zero, List.set_cons_succ, i64_w, i32_w]
                           rfl
                          exact norm_ (by first | (simp only [putAll, Act.put, List.setIfInBounds_toArray, List.set_cons_zero, List.set_cons_succ]; done) | (simp only [putAll, Act.put, List.setIfInBounds_toArray, List.set_cons_zero, List.set_cons_succ]; rfl)) (hJ29 (gb327) _ ⟨hHeld, (by (with_reducible repeat (first | apply Kd.V_alloc | apply Kd.V_drewN | apply Kd.V_drew)); exact Kd.V_mono HO288.out (fun _ hk => ⟨hk.1.1, ⟨hk.1.2, hk.2⟩⟩)), (by (with_reducible repeat (first | apply Kd.V_alloc | apply Kd.V_drewN | apply Kd.V_drew)); exact Kd.V_mono HO293.out (fun _ hk => ⟨hk.1.1, ⟨hk.1.2, hk.2⟩⟩)), (by (with_reducible repeat (first | apply Kd.V_alloc | apply Kd.V_drewN | apply Kd.V_drew)); exact Kd.V_mono HO299.out (fun _ hk => ⟨hk.1.1, ⟨hk.1.2, hk.2⟩⟩)), (by (with_reducible repeat (first | apply Kd.V_alloc | apply Kd.V_drewN | apply Kd.V_drew)); exact Kd.V_mono HO305.out (fun _ hk => ⟨hk.1.1, ⟨hk.1.2, hk.2⟩⟩)), (by (with_reducible repeat (first | apply Kd.V_alloc | apply Kd.V_drewN | apply Kd.V_drew)); exact Kd.V_mono HO313.out (fun _ hk => ⟨hk.1.1, ⟨hk.1.2, hk.2⟩⟩)), (by (with_reducible repeat (first | apply Kd.V_alloc | apply Kd.V_drewN | apply Kd.V_drew)); exact Kd.V_mono HO319.out (fun _ hk => ⟨hk.1.1, ⟨hk.1.2, hk.2⟩⟩)), (by (with_reducible repeat (first | apply Kd.V_alloc | apply Kd.V_drewN | apply Kd.V_drew)); exact Kd.V_mono HO325.out (fun _ hk => ⟨hk.1.1, ⟨hk.1.2, hk.2⟩⟩)), (by (with_reducible repeat (first | apply Kd.V_alloc | apply Kd.V_drewN | apply Kd.V_drew)); exact Kd.V_mono HO_0.out (fun _ hk => ⟨hk.1.1, ⟨hk.1.2, hk.2⟩⟩)), (by (with_reducible repeat (first | apply Kd.R_alloc | apply Kd.R_drewN | apply Kd.R_drew)); exact HO_3.out), (by (with_reducible repeat (first | refine blk_drewN ?_ _ | refine blk_drew ?_ | refine blk_alloc ?_ _)); exact BK327.out), GW327.out, GE327.out, (by repeat (first | (with_reducible first | exact HB.out | apply below_alloc | apply pw_below_drewN | apply below_drew1 | refine below_set ?_ GE327.out) | exact HB.out))⟩)
                        ·skip
                         rintro gb327 w36 ⟨hS_, h0_, h1_, h2_, h3_, h4_, h5_, h6_, h7_, h8_, h9_, h10_, h11_, h12_⟩
                         have n0_ : Aside0 (Kd.V (Kd.int .u8) 5 w36 w.heap.size (fun k_ => (P0_ k_ ∨ w.heap.size ≤ k_) ∧ some k_ ≠ (u3 : Value).ownBlock ∧ k_ ≠ gb327) (.slice (some ad307) y284.length co26) y284) := ⟨h0_⟩
                         have n1_ : Aside0 (Kd.V (Kd.int .u8) 5 w36 w.heap.size (fun k_ => (P0_ k_ ∨ w.heap.size ≤ k_) ∧ some k_ ≠ (u3 : Value).ownBlock ∧ k_ ≠ gb327) (.slice (some ad307) y289.length co26) y289) := ⟨h1_⟩
                         have n2_ : Aside0 (Kd.V (Kd.int .u8) 5 w36 w.heap.size (fun k_ => (P0_ k_ ∨ w.heap.size ≤ k_) ∧ some k_ ≠ (u3 : Value).ownBlock ∧ k_ ≠ gb327) (.slice A30 y295.length c30) y295) := ⟨h2_⟩
                         have n3_ : Aside0 (Kd.V (Kd.int .u8) 5 w36 w.heap.size (fun k_ => (P0_ k_ ∨ w.heap.size ≤ k_) ∧ some k_ ≠ (u3 : Value).ownBlock ∧ k_ ≠ gb327) (.slice A31 y301.length c31) y301) := ⟨h3_⟩
                         have n4_ : Aside0 (Kd.V (Kd.int .u8) 5 w36 w.heap.size (fun k_ => (P0_ k_ ∨ w.heap.size ≤ k_) ∧ some k_ ≠ (u3 : Value).ownBlock ∧ k_ ≠ gb327) (.slice A32 y309.length c32) y309) := ⟨h4_⟩
                         have n5_ : Aside0 (Kd.V (Kd.int .u8) 5 w36 w.heap.size (fun k_ => (P0_ k_ ∨ w.heap.size ≤ k_) ∧ some k_ ≠ (u3 : Value).ownBlock ∧ k_ ≠ gb327) (.slice A33 y315.length c33) y315) := ⟨h5_⟩
                         have n6_ : Aside0 (Kd.V (Kd.int .u8) 5 w36 w.heap.size (fun k_ => (P0_ k_ ∨ w.heap.size ≤ k_) ∧ some k_ ≠ (u3 : Value).ownBlock ∧ k_ ≠ gb327) (.slice A34 y321.length c34) y321) := ⟨h6_⟩
                         have n7_ : Aside0 (Kd.V (Kd.int .u8) 5 w36 w.heap.size (fun k_ => (P0_ k_ ∨ w.heap.size ≤ k_) ∧ some k_ ≠ (u3 : Value).ownBlock ∧ k_ ≠ gb327) (.slice (some ad307) x0_1.length co26) x0_1) := ⟨h7_⟩
                         have n8_ : Aside0 (Kd.R k48 48 w36 w.heap.size (fun k_ => (w.heap.size ≤ k_) ∧ k_ ≠ gb327) u3 x3_1) := ⟨h8_⟩
                         have n9_ : Aside0 (w36.heap[gb327]? = some (.cells #[.int .i64 0, .int .i64 0, .int .i64 0, .bool false, .int .i64 0, .bool false, .int .i64 0, .int .i64 0] 48 (0, 0))) := ⟨h9_⟩
                         have n10_ : Aside0 (w.heap.size ≤ gb327) := ⟨h10_⟩
                         have n11_ : Aside0 (w.heap.size ≤ gb327) := ⟨h11_⟩
                         have n12_ : Aside0 (Below w.heap.size w w36) := ⟨h12_⟩
                         clear HO_0
                         clear HO_3
                         clear HO288
                         clear HB
                         clear h0_ h1_ h2_ h3_ h4_ h5_ h6_ h7_ h8_ h9_ h10_ h11_ h12_
                         have HO288 := n0_
                         have HO293 := n1_
                         have HO299 := n2_
                         have HO305 := n3_
                         have HO313 := n4_
                         have HO319 := n5_
                         have HO325 := n6_
                         have HO_0 := n7_
                         have HO_3 := n8_
                         have BK327 := n9_
                         have GW327 := n10_
                         have GE327 := n11_
                         have HB := n12_
                         clear n0_ n1_ n2_ n3_ n4_ n5_ n6_ n7_ n8_ n9_ n10_ n11_ n12_
                         have hHeld : w36.cell? ⟨ad307.block, ad307.off + 4, none⟩ = some (.int .u8 (rd y284 4)) ∧ w36.cell? ⟨ad307.block, ad307.off + 4, none⟩ = some (.int .u8 (rd y284 4)) := hS_
                         refine norm_ (a' := ?_) ?_ ?_
                         rotate_left
                         ·simp only [putAll, Act.put, List.setIfInBounds_toArray, List.set_cons_zero, List.set_cons_succ]
                          rfl
                         refine one_ (i := 2) (N := some 16) #[true, true, true, true, true, false, true, true, false, true, true, true, true, true, true, true, true, true, true, true, true, false, true, true, false, true, true, false, false, true, false] rfl rfl (one_of HT_.out (by kernel_rfl)) (by decide) (fun K hK => ?_)
                         refine goes_ Try.func81 (by kernel_rfl) rfl #[.slice (some ad307) y289.length co26] (by rfl) rfl rfl (by (try simp only [List.map_toArray, List.map_cons, List.map_nil]); first | done | rfl | (simp only [List.length_drop, List.length_take]; rfl)) ?_
                         with_reducible refine (impl_take.calls k1 _ _ y289 t294 _ ?side1 ?side2 A7.out).mono ?_
                         (case side1 => repeat (first | exact (Kd.V_reads' HO293.out).2.2 | (with_reducible refine Kd.C_alloc ?_ _) | (with_reducible refine Kd.C_drewN ?_ _) | (with_reducible refine Kd.C_drew ?_)))
                         (case side2 => exact (Kd.V_reads' HO293.out).2.1)
                         rintro e w' ⟨rfl, ⟨nd, rfl⟩⟩
                         refine ⟨_, rfl, ?_⟩
                         refine hK.out _ _ ⟨hHeld.1, hHeld.2⟩ (fun hHeld => ?_)
                         clear hK K
                         refine norm_ (a' := ?_) ?_ ?_
                         rotate_left
                         ·show Act.put _ (some 16) _ = _
                          simp only [Act.put, List.setIfInBounds_toArray, List.set_cons_zero, List.set_cons_succ, i64_w, i32_w]
                          rfl
                         exact norm_ (by first | (simp only [putAll, Act.put, List.setIfInBounds_toArray, List.set_cons_zero, List.set_cons_succ]; done) | (simp only [putAll, Act.put, List.setIfInBounds_toArray, List.set_cons_zero, List.set_cons_succ]; rfl)) (hJ2_29 (gb327) _ ⟨hHeld, (by (with_reducible repeat (first | apply Kd.V_alloc | apply Kd.V_drewN | apply Kd.V_drew)); exact HO288.out), (by (with_reducible repeat (first | apply Kd.V_alloc | apply Kd.V_drewN | apply Kd.V_drew)); exact HO293.out), (by (with_reducible repeat (first | apply Kd.V_alloc | apply Kd.V_drewN | apply Kd.V_drew)); exact HO299.out), (by (with_reducible repeat (first | apply Kd.V_alloc | apply Kd.V_drewN | apply Kd.V_drew)); exact HO305.out), (by (with_reducible repeat (first | apply Kd.V_alloc | apply Kd.V_drewN | apply Kd.V_drew)); exact HO313.out), (by (with_reducible repeat (first | apply Kd.V_alloc | apply Kd.V_drewN | apply Kd.V_drew)); exact HO319.out), (by (with_reducible repeat (first | apply Kd.V_alloc | apply Kd.V_drewN | apply Kd.V_drew)); exact HO325.out), (by (with_reducible repeat (first | apply Kd.V_alloc | apply Kd.V_drewN | apply Kd.V_drew)); exact HO_0.out), (by (with_reducible repeat (first | apply Kd.R_alloc | apply Kd.R_drewN | apply Kd.R_drew)); exact HO_3.out), (by (with_reducible repeat (first | refine blk_drewN ?_ _ | refine blk_drew ?_ | refine blk_alloc ?_ _)); exact BK327.out), GW327.out, GE327.out, (by repeat (first | (with_reducible first | exact HB.out | apply below_alloc | apply pw_below_drewN | apply below_drew1 | refine below_set ?_ GE327.out) | exact HB.out))⟩)
                       ·skip
                        rintro _ w35 ⟨hS_, h0_, h1_, h2_, h3_, h4_, h5_, h6_, h7_, h8_, h9_⟩
                        have n0_ : Aside0 (Kd.V (Kd.int .u8) 5 w35 w.heap.size (fun k_ => (P0_ k_ ∨ w.heap.size ≤ k_) ∧ some k_ ≠ (u3 : Value).ownBlock) (.slice (some ad307) y284.length co26) y284) := ⟨h0_⟩
                        have n1_ : Aside0 (Kd.V (Kd.int .u8) 5 w35 w.heap.size (fun k_ => (P0_ k_ ∨ w.heap.size ≤ k_) ∧ some k_ ≠ (u3 : Value).ownBlock) (.slice (some ad307) y289.length co26) y289) := ⟨h1_⟩
                        have n2_ : Aside0 (Kd.V (Kd.int .u8) 5 w35 w.heap.size (fun k_ => (P0_ k_ ∨ w.heap.size ≤ k_) ∧ some k_ ≠ (u3 : Value).ownBlock) (.slice A30 y295.length c30) y295) := ⟨h2_⟩
                        have n3_ : Aside0 (Kd.V (Kd.int .u8) 5 w35 w.heap.size (fun k_ => (P0_ k_ ∨ w.heap.size ≤ k_) ∧ some k_ ≠ (u3 : Value).ownBlock) (.slice A31 y301.length c31) y301) := ⟨h3_⟩
                        have n4_ : Aside0 (Kd.V (Kd.int .u8) 5 w35 w.heap.size (fun k_ => (P0_ k_ ∨ w.heap.size ≤ k_) ∧ some k_ ≠ (u3 : Value).ownBlock) (.slice A32 y309.length c32) y309) := ⟨h4_⟩
                        have n5_ : Aside0 (Kd.V (Kd.int .u8) 5 w35 w.heap.size (fun k_ => (P0_ k_ ∨ w.heap.size ≤ k_) ∧ some k_ ≠ (u3 : Value).ownBlock) (.slice A33 y315.length c33) y315) := ⟨h5_⟩
                        have n6_ : Aside0 (Kd.V (Kd.int .u8) 5 w35 w.heap.size (fun k_ => (P0_ k_ ∨ w.heap.size ≤ k_) ∧ some k_ ≠ (u3 : Value).ownBlock) (.slice A34 y321.length c34) y321) := ⟨h6_⟩
                        have n7_ : Aside0 (Kd.V (Kd.int .u8) 5 w35 w.heap.size (fun k_ => (P0_ k_ ∨ w.heap.size ≤ k_) ∧ some k_ ≠ (u3 : Value).ownBlock) (.slice (some ad307) x0_1.length co26) x0_1) := ⟨h7_⟩
                        have n8_ : Aside0 (Kd.R k48 48 w35 w.heap.size (fun k_ => (w.heap.size ≤ k_)) u3 x3_1) := ⟨h8_⟩
                        have n9_ : Aside0 (Below w.heap.size w w35) := ⟨h9_⟩
                        clear HO_0
                        clear HO_3
                        clear HO288
                        clear HB
                        clear h0_ h1_ h2_ h3_ h4_ h5_ h6_ h7_ h8_ h9_
                        have HO288 := n0_
                        have HO293 := n1_
                        have HO299 := n2_
                        have HO305 := n3_
                        have HO313 := n4_
                        have HO319 := n5_
                        have HO325 := n6_
                        have HO_0 := n7_
                        have HO_3 := n8_
                        have HB := n9_
                        clear n0_ n1_ n2_ n3_ n4_ n5_ n6_ n7_ n8_ n9_
                        have hHeld : w35.cell? ⟨ad307.block, ad307.off + 4, none⟩ = some (.int .u8 (rd y284 4)) ∧ w35.cell? ⟨ad307.block, ad307.off + 4, none⟩ = some (.int .u8 (rd y284 4)) := hS_
                        refine norm_ (a' := ?_) ?_ ?_
                        rotate_left
                        ·simp only [putAll, Act.put, List.setIfInBounds_toArray, List.set_cons_zero, List.set_cons_succ]
                         rfl
                        refine two_ (i := 5) (j := 29) (Ni := some 19) (Nj := some 5) #[true, true, true, true, true, true, true, true, false, true, true, true, true, true, true, true, true, true, true, true, true, false, true, true, false, true, true, false, false, false, false] #[true, true, true, true, true, false, true, true, false, true, true, true, true, true, true, true, true, true, true, true, true, false, true, true, false, true, true, false, false, true, false] rfl rfl rfl rfl (two_of HT_.out (by kernel_rfl)) (by decide) (by decide) (fun K hK => ?_) (fun K hK => ?_)
                        ·skip
                         refine goes_ Try.func81 (by kernel_rfl) rfl #[.slice A30 y295.length c30] (by rfl) rfl rfl (by (try simp only [List.map_toArray, List.map_cons, List.map_nil]); first | done | rfl | (simp only [List.length_drop, List.length_take]; rfl)) ?_
                         with_reducible refine (impl_take.calls k1 _ _ y295 t300 _ ?side1 ?side2 A9.out).mono ?_
                         (case side1 => repeat (first | exact (Kd.V_reads' HO299.out).2.2 | (with_reducible refine Kd.C_alloc ?_ _) | (with_reducible refine Kd.C_drewN ?_ _) | (with_reducible refine Kd.C_drew ?_)))
                         (case side2 => exact (Kd.V_reads' HO299.out).2.1)
                         rintro e w' ⟨rfl, ⟨nd, rfl⟩⟩
                         refine ⟨_, rfl, ?_⟩
                         refine hK.out _ _ ⟨hHeld.1, hHeld.2⟩ (fun hHeld => ?_)
                         clear hK K
                         refine norm_ (a' := ?_) ?_ ?_
                         rotate_left
                         ·show Act.put _ (some 19) _ = _
                          simp only [Act.put, List.setIfInBounds_toArray, List.set_cons_zero, List.set_cons_succ, i64_w, i32_w]
                          rfl
                         exact norm_ (by first | (simp only [putAll, Act.put, List.setIfInBounds_toArray, List.set_cons_zero, List.set_cons_succ]; done) | (simp only [putAll, Act.put, List.setIfInBounds_toArray, List.set_cons_zero, List.set_cons_succ]; rfl)) (hJ2_5 () _ ⟨hHeld, (by (with_reducible repeat (first | apply Kd.V_alloc | apply Kd.V_drewN | apply Kd.V_drew)); exact HO288.out), (by (with_reducible repeat (first | apply Kd.V_alloc | apply Kd.V_drewN | apply Kd.V_drew)); exact HO293.out), (by (with_reducible repeat (first | apply Kd.V_alloc | apply Kd.V_drewN | apply Kd.V_drew)); exact HO299.out), (by (with_reducible repeat (first | apply Kd.V_alloc | apply Kd.V_drewN | apply Kd.V_drew)); exact HO305.out), (by (with_reducible repeat (first | apply Kd.V_alloc | apply Kd.V_drewN | apply Kd.V_drew)); exact HO313.out), (by (with_reducible repeat (first | apply Kd.V_alloc | apply Kd.V_drewN | apply Kd.V_drew)); exact HO319.out), (by (with_reducible repeat (first | apply Kd.V_alloc | apply Kd.V_drewN | apply Kd.V_drew)); exact HO325.out), (by (with_reducible repeat (first | apply Kd.V_alloc | apply Kd.V_drewN | apply Kd.V_drew)); exact HO_0.out), (by (with_reducible repeat (first | apply Kd.R_alloc | apply Kd.R_drewN | apply Kd.R_drew)); exact HO_3.out), (by repeat (first | (with_reducible first | exact HB.out | apply below_alloc | apply pw_below_drewN | apply below_drew1) | exact HB.out))⟩)
                        ·skip
                         refine box_step ?hg (N := 5) ?hd (cs := #[.int .i64 0, .int .i64 0, .int .i64 0, .bool false, .int .i64 0, .bool false, .int .i64 0, .int .i64 0]) (t := 48) ?hr ?_; (case hd => rfl); (case hg => rfl); (case hr => first | (go_simp; done) | (go_simp; rfl))
                         intro gb327 hg w36 hbox hb
                         have HS0_ := (hb.cell (World.block_lt_of_cell? _ _ (hHeld.1))).trans (hHeld.1)
                         have HS1_ := (hb.cell (World.block_lt_of_cell? _ _ (hHeld.2))).trans (hHeld.2)
                         have n0_ := Aside0.mk (Kd.V_below (Kd.V_elderB (by (with_reducible repeat (first | apply Kd.V_alloc | apply Kd.V_drewN | apply Kd.V_drew)); exact HO_0.out) gb327 (Nat.le_of_eq hg.symm)) hb)
                         have n1_ := Aside0.mk (Kd.R_below (Kd.R_elderB (by (with_reducible repeat (first | apply Kd.R_alloc | apply Kd.R_drewN | apply Kd.R_drew)); exact HO_3.out) gb327 (Nat.le_of_eq hg.symm)) hb)
                         have n2_ := Aside0.mk (Kd.V_below (Kd.V_elderB (by (with_reducible repeat (first | apply Kd.V_alloc | apply Kd.V_drewN | apply Kd.V_drew)); exact HO288.out) gb327 (Nat.le_of_eq hg.symm)) hb)
                         have n3_ := Aside0.mk (Kd.V_below (Kd.V_elderB (by (with_reducible repeat (first | apply Kd.V_alloc | apply Kd.V_drewN | apply Kd.V_drew)); exact HO293.out) gb327 (Nat.le_of_eq hg.symm)) hb)
                         have n4_ := Aside0.mk (Kd.V_below (Kd.V_elderB (by (with_reducible repeat (first | apply Kd.V_alloc | apply Kd.V_drewN | apply Kd.V_drew)); exact HO299.out) gb327 (Nat.le_of_eq hg.symm)) hb)
                         have n5_ := Aside0.mk (Kd.V_below (Kd.V_elderB (by (with_reducible repeat (first | apply Kd.V_alloc | apply Kd.V_drewN | apply Kd.V_drew)); exact HO305.out) gb327 (Nat.le_of_eq hg.symm)) hb)
                         have n6_ := Aside0.mk (Kd.V_below (Kd.V_elderB (by (with_reducible repeat (first | apply Kd.V_alloc | apply Kd.V_drewN | apply Kd.V_drew)); exact HO313.out) gb327 (Nat.le_of_eq hg.symm)) hb)
                         have n7_ := Aside0.mk (Kd.V_below (Kd.V_elderB (by (with_reducible repeat (first | apply Kd.V_alloc | apply Kd.V_drewN | apply Kd.V_drew)); exact HO319.out) gb327 (Nat.le_of_eq hg.symm)) hb)
                         have n8_ := Aside0.mk (Kd.V_below (Kd.V_elderB (by (with_reducible repeat (first | apply Kd.V_alloc | apply Kd.V_drewN | apply Kd.V_drew)); exact HO325.out) gb327 (Nat.le_of_eq hg.symm)) hb)
                         have n9_ := Aside0.mk (below_step (by repeat (first | (with_reducible first | exact HB.out | apply below_alloc | apply pw_below_drewN | apply below_drew1) | exact HB.out)) hb)
                         have n10_ := Aside0.mk (hbox)
                         have n11_ := Aside0.mk ((by rw [hg]; exact (below_size (by repeat (first | (with_reducible first | exact HB.out | apply below_alloc | apply pw_below_drewN | apply below_drew1) | exact HB.out))) : w.heap.size ≤ gb327))
                         have n12_ := Aside0.mk ((by rw [hg]; exact (below_size (by repeat (first | (with_reducible first | exact HB.out | apply below_alloc | apply pw_below_drewN | apply below_drew1) | exact HB.out))) : w.heap.size ≤ gb327))
                         clear HO_0
                         clear HO_3
                         clear HO288
                         clear HO293
                         clear HO299
                         clear HO305
                         clear HO313
                         clear HO319
                         clear HO325
                         clear HB
                         have HO_0 := n0_
                         have HO_3 := n1_
                         have HO288 := n2_
                         have HO293 := n3_
                         have HO299 := n4_
                         have HO305 := n5_
                         have HO313 := n6_
                         have HO319 := n7_
                         have HO325 := n8_
                         have HB := n9_
                         have BK327 := n10_
                         have GW327 := n11_
                         have GE327 := n12_
                         clear n0_ n1_ n2_ n3_ n4_ n5_ n6_ n7_ n8_ n9_ n10_ n11_ n12_
                         clear hb hbox hg
                         refine hK.out _ _ ⟨HS0_, HS1_⟩ (fun hHeld => ?_)
                         clear hK K
                         refine norm_ (a' := ?_) ?_ ?_
                         rotate_left
                         ·show Act.put _ (some 5) _ = _
                          simp only [Act.put, List.setIfInBounds_toArray, List.set_cons_zero, List.set_cons_succ, i64_w, i32_w]
                          rfl
                         exact norm_ (by first | (simp only [putAll, Act.put, List.setIfInBounds_toArray, List.set_cons_zero, List.set_cons_succ]; done) | (simp only [putAll, Act.put, List.setIfInBounds_toArray, List.set_cons_zero, List.set_cons_succ]; rfl)) (hJ2_29 (gb327) _ ⟨hHeld, (by (with_reducible repeat (first | apply Kd.V_alloc | apply Kd.V_drewN | apply Kd.V_drew)); exact Kd.V_mono HO288.out (fun _ hk => ⟨hk.1.1, ⟨hk.1.2, hk.2⟩⟩)), (by (with_reducible repeat (first | apply Kd.V_alloc | apply Kd.V_drewN | apply Kd.V_drew)); exact Kd.V_mono HO293.out (fun _ hk => ⟨hk.1.1, ⟨hk.1.2, hk.2⟩⟩)), (by (with_reducible repeat (first | apply Kd.V_alloc | apply Kd.V_drewN | apply Kd.V_drew)); exact Kd.V_mono HO299.out (fun _ hk => ⟨hk.1.1, ⟨hk.1.2, hk.2⟩⟩)), (by (with_reducible repeat (first | apply Kd.V_alloc | apply Kd.V_drewN | apply Kd.V_drew)); exact Kd.V_mono HO305.out (fun _ hk => ⟨hk.1.1, ⟨hk.1.2, hk.2⟩⟩)), (by (with_reducible repeat (first | apply Kd.V_alloc | apply Kd.V_drewN | apply Kd.V_drew)); exact Kd.V_mono HO313.out (fun _ hk => ⟨hk.1.1, ⟨hk.1.2, hk.2⟩⟩)), (by (with_reducible repeat (first | apply Kd.V_alloc | apply Kd.V_drewN | apply Kd.V_drew)); exact Kd.V_mono HO319.out (fun _ hk => ⟨hk.1.1, ⟨hk.1.2, hk.2⟩⟩)), (by (with_reducible repeat (first | apply Kd.V_alloc | apply Kd.V_drewN | apply Kd.V_drew)); exact Kd.V_mono HO325.out (fun _ hk => ⟨hk.1.1, ⟨hk.1.2, hk.2⟩⟩)), (by (with_reducible repeat (first | apply Kd.V_alloc | apply Kd.V_drewN | apply Kd.V_drew)); exact Kd.V_mono HO_0.out (fun _ hk => ⟨hk.1.1, ⟨hk.1.2, hk.2⟩⟩)), (by (with_reducible repeat (first | apply Kd.R_alloc | apply Kd.R_drewN | apply Kd.R_drew)); exact HO_3.out), (by (with_reducible repeat (first | refine blk_drewN ?_ _ | refine blk_drew ?_ | refine blk_alloc ?_ _)); exact BK327.out), GW327.out, GE327.out, (by repeat (first | (with_reducible first | exact HB.out | apply below_alloc | apply pw_below_drewN | apply below_drew1 | refine below_set ?_ GE327.out) | exact HB.out))⟩)
                      ·skip
                       rintro gb327 w36 ⟨hS_, h0_, h1_, h2_, h3_, h4_, h5_, h6_, h7_, h8_, h9_, h10_, h11_, h12_⟩
                       have n0_ : Aside0 (Kd.V (Kd.int .u8) 5 w36 w.heap.size (fun k_ => (P0_ k_ ∨ w.heap.size ≤ k_) ∧ some k_ ≠ (u3 : Value).ownBlock ∧ k_ ≠ gb327) (.slice (some ad307) y284.length co26) y284) := ⟨h0_⟩
                       have n1_ : Aside0 (Kd.V (Kd.int .u8) 5 w36 w.heap.size (fun k_ => (P0_ k_ ∨ w.heap.size ≤ k_) ∧ some k_ ≠ (u3 : Value).ownBlock ∧ k_ ≠ gb327) (.slice (some ad307) y289.length co26) y289) := ⟨h1_⟩
                       have n2_ : Aside0 (Kd.V (Kd.int .u8) 5 w36 w.heap.size (fun k_ => (P0_ k_ ∨ w.heap.size ≤ k_) ∧ some k_ ≠ (u3 : Value).ownBlock ∧ k_ ≠ gb327) (.slice A30 y295.length c30) y295) := ⟨h2_⟩
                       have n3_ : Aside0 (Kd.V (Kd.int .u8) 5 w36 w.heap.size (fun k_ => (P0_ k_ ∨ w.heap.size ≤ k_) ∧ some k_ ≠ (u3 : Value).ownBlock ∧ k_ ≠ gb327) (.slice A31 y301.length c31) y301) := ⟨h3_⟩
                       have n4_ : Aside0 (Kd.V (Kd.int .u8) 5 w36 w.heap.size (fun k_ => (P0_ k_ ∨ w.heap.size ≤ k_) ∧ some k_ ≠ (u3 : Value).ownBlock ∧ k_ ≠ gb327) (.slice A32 y309.length c32) y309) := ⟨h4_⟩
                       have n5_ : Aside0 (Kd.V (Kd.int .u8) 5 w36 w.heap.size (fun k_ => (P0_ k_ ∨ w.heap.size ≤ k_) ∧ some k_ ≠ (u3 : Value).ownBlock ∧ k_ ≠ gb327) (.slice A33 y315.length c33) y315) := ⟨h5_⟩
                       have n6_ : Aside0 (Kd.V (Kd.int .u8) 5 w36 w.heap.size (fun k_ => (P0_ k_ ∨ w.heap.size ≤ k_) ∧ some k_ ≠ (u3 : Value).ownBlock ∧ k_ ≠ gb327) (.slice A34 y321.length c34) y321) := ⟨h6_⟩
                       have n7_ : Aside0 (Kd.V (Kd.int .u8) 5 w36 w.heap.size (fun k_ => (P0_ k_ ∨ w.heap.size ≤ k_) ∧ some k_ ≠ (u3 : Value).ownBlock ∧ k_ ≠ gb327) (.slice (some ad307) x0_1.length co26) x0_1) := ⟨h7_⟩
                       have n8_ : Aside0 (Kd.R k48 48 w36 w.heap.size (fun k_ => (w.heap.size ≤ k_) ∧ k_ ≠ gb327) u3 x3_1) := ⟨h8_⟩
                       have n9_ : Aside0 (w36.heap[gb327]? = some (.cells #[.int .i64 0, .int .i64 0, .int .i64 0, .bool false, .int .i64 0, .bool false, .int .i64 0, .int .i64 0] 48 (0, 0))) := ⟨h9_⟩
                       have n10_ : Aside0 (w.heap.size ≤ gb327) := ⟨h10_⟩
                       have n11_ : Aside0 (w.heap.size ≤ gb327) := ⟨h11_⟩
                       have n12_ : Aside0 (Below w.heap.size w w36) := ⟨h12_⟩
                       clear HO_0
                       clear HO_3
                       clear HO288
                       clear HB
                       clear h0_ h1_ h2_ h3_ h4_ h5_ h6_ h7_ h8_ h9_ h10_ h11_ h12_
                       have HO288 := n0_
                       have HO293 := n1_
                       have HO299 := n2_
                       have HO305 := n3_
                       have HO313 := n4_
                       have HO319 := n5_
                       have HO325 := n6_
                       have HO_0 := n7_
                       have HO_3 := n8_
                       have BK327 := n9_
                       have GW327 := n10_
                       have GE327 := n11_
                       have HB := n12_
                       clear n0_ n1_ n2_ n3_ n4_ n5_ n6_ n7_ n8_ n9_ n10_ n11_ n12_
                       have hHeld : w36.cell? ⟨ad307.block, ad307.off + 4, none⟩ = some (.int .u8 (rd y284 4)) ∧ w36.cell? ⟨ad307.block, ad307.off + 4, none⟩ = some (.int .u8 (rd y284 4)) := hS_
                       refine norm_ (a' := ?_) ?_ ?_
                       rotate_left
                       ·simp only [putAll, Act.put, List.setIfInBounds_toArray, List.set_cons_zero, List.set_cons_succ]
                        rfl
                       refine one_ (i := 5) (N := some 19) #[true, true, true, true, true, true, true, true, false, true, true, true, true, true, true, true, true, true, true, true, true, false, true, true, false, true, true, false, false, true, false] rfl rfl (one_of HT_.out (by kernel_rfl)) (by decide) (fun K hK => ?_)
                       refine goes_ Try.func81 (by kernel_rfl) rfl #[.slice A30 y295.length c30] (by rfl) rfl rfl (by (try simp only [List.map_toArray, List.map_cons, List.map_nil]); first | done | rfl | (simp only [List.length_drop, List.length_take]; rfl)) ?_
                       with_reducible refine (impl_take.calls k1 _ _ y295 t300 _ ?side1 ?side2 A9.out).mono ?_
                       (case side1 => repeat (first | exact (Kd.V_reads' HO299.out).2.2 | (with_reducible refine Kd.C_alloc ?_ _) | (with_reducible refine Kd.C_drewN ?_ _) | (with_reducible refine Kd.C_drew ?_)))
                       (case side2 => exact (Kd.V_reads' HO299.out).2.1)
                       rintro e w' ⟨rfl, ⟨nd, rfl⟩⟩
                       refine ⟨_, rfl, ?_⟩
                       refine hK.out _ _ ⟨hHeld.1, hHeld.2⟩ (fun hHeld => ?_)
                       clear hK K
                       refine norm_ (a' := ?_) ?_ ?_
                       rotate_left
                       ·show Act.put _ (some 19) _ = _
                        simp only [Act.put, List.setIfInBounds_toArray, List.set_cons_zero, List.set_cons_succ, i64_w, i32_w]
                        rfl
                       exact norm_ (by first | (simp only [putAll, Act.put, List.setIfInBounds_toArray, List.set_cons_zero, List.set_cons_succ]; done) | (simp only [putAll, Act.put, List.setIfInBounds_toArray, List.set_cons_zero, List.set_cons_succ]; rfl)) (hJ2_5_29 (gb327) _ ⟨hHeld, (by (with_reducible repeat (first | apply Kd.V_alloc | apply Kd.V_drewN | apply Kd.V_drew)); exact HO288.out), (by (with_reducible repeat (first | apply Kd.V_alloc | apply Kd.V_drewN | apply Kd.V_drew)); exact HO293.out), (by (with_reducible repeat (first | apply Kd.V_alloc | apply Kd.V_drewN | apply Kd.V_drew)); exact HO299.out), (by (with_reducible repeat (first | apply Kd.V_alloc | apply Kd.V_drewN | apply Kd.V_drew)); exact HO305.out), (by (with_reducible repeat (first | apply Kd.V_alloc | apply Kd.V_drewN | apply Kd.V_drew)); exact HO313.out), (by (with_reducible repeat (first | apply Kd.V_alloc | apply Kd.V_drewN | apply Kd.V_drew)); exact HO319.out), (by (with_reducible repeat (first | apply Kd.V_alloc | apply Kd.V_drewN | apply Kd.V_drew)); exact HO325.out), (by (with_reducible repeat (first | apply Kd.V_alloc | apply Kd.V_drewN | apply Kd.V_drew)); exact HO_0.out), (by (with_reducible repeat (first | apply Kd.R_alloc | apply Kd.R_drewN | apply Kd.R_drew)); exact HO_3.out), (by (with_reducible repeat (first | refine blk_drewN ?_ _ | refine blk_drew ?_ | refine blk_alloc ?_ _)); exact BK327.out), GW327.out, GE327.out, (by repeat (first | (with_reducible first | exact HB.out | apply below_alloc | apply pw_below_drewN | apply below_drew1 | refine below_set ?_ GE327.out) | exact HB.out))⟩)
                     ·skip
                      rintro _ w35 ⟨hS_, h0_, h1_, h2_, h3_, h4_, h5_, h6_, h7_, h8_, h9_⟩
                      have n0_ : Aside0 (Kd.V (Kd.int .u8) 5 w35 w.heap.size (fun k_ => (P0_ k_ ∨ w.heap.size ≤ k_) ∧ some k_ ≠ (u3 : Value).ownBlock) (.slice (some ad307) y284.length co26) y284) := ⟨h0_⟩
                      have n1_ : Aside0 (Kd.V (Kd.int .u8) 5 w35 w.heap.size (fun k_ => (P0_ k_ ∨ w.heap.size ≤ k_) ∧ some k_ ≠ (u3 : Value).ownBlock) (.slice (some ad307) y289.length co26) y289) := ⟨h1_⟩
                      have n2_ : Aside0 (Kd.V (Kd.int .u8) 5 w35 w.heap.size (fun k_ => (P0_ k_ ∨ w.heap.size ≤ k_) ∧ some k_ ≠ (u3 : Value).ownBlock) (.slice A30 y295.length c30) y295) := ⟨h2_⟩
                      have n3_ : Aside0 (Kd.V (Kd.int .u8) 5 w35 w.heap.size (fun k_ => (P0_ k_ ∨ w.heap.size ≤ k_) ∧ some k_ ≠ (u3 : Value).ownBlock) (.slice A31 y301.length c31) y301) := ⟨h3_⟩
                      have n4_ : Aside0 (Kd.V (Kd.int .u8) 5 w35 w.heap.size (fun k_ => (P0_ k_ ∨ w.heap.size ≤ k_) ∧ some k_ ≠ (u3 : Value).ownBlock) (.slice A32 y309.length c32) y309) := ⟨h4_⟩
                      have n5_ : Aside0 (Kd.V (Kd.int .u8) 5 w35 w.heap.size (fun k_ => (P0_ k_ ∨ w.heap.size ≤ k_) ∧ some k_ ≠ (u3 : Value).ownBlock) (.slice A33 y315.length c33) y315) := ⟨h5_⟩
                      have n6_ : Aside0 (Kd.V (Kd.int .u8) 5 w35 w.heap.size (fun k_ => (P0_ k_ ∨ w.heap.size ≤ k_) ∧ some k_ ≠ (u3 : Value).ownBlock) (.slice A34 y321.length c34) y321) := ⟨h6_⟩
                      have n7_ : Aside0 (Kd.V (Kd.int .u8) 5 w35 w.heap.size (fun k_ => (P0_ k_ ∨ w.heap.size ≤ k_) ∧ some k_ ≠ (u3 : Value).ownBlock) (.slice (some ad307) x0_1.length co26) x0_1) := ⟨h7_⟩
                      have n8_ : Aside0 (Kd.R k48 48 w35 w.heap.size (fun k_ => (w.heap.size ≤ k_)) u3 x3_1) := ⟨h8_⟩
                      have n9_ : Aside0 (Below w.heap.size w w35) := ⟨h9_⟩
                      clear HO_0
                      clear HO_3
                      clear HO288
                      clear HB
                      clear h0_ h1_ h2_ h3_ h4_ h5_ h6_ h7_ h8_ h9_
                      have HO288 := n0_
                      have HO293 := n1_
                      have HO299 := n2_
                      have HO305 := n3_
                      have HO313 := n4_
                      have HO319 := n5_
                      have HO325 := n6_
                      have HO_0 := n7_
                      have HO_3 := n8_
                      have HB := n9_
                      clear n0_ n1_ n2_ n3_ n4_ n5_ n6_ n7_ n8_ n9_
                      have hHeld : w35.cell? ⟨ad307.block, ad307.off + 4, none⟩ = some (.int .u8 (rd y284 4)) ∧ w35.cell? ⟨ad307.block, ad307.off + 4, none⟩ = some (.int .u8 (rd y284 4)) := hS_
                      refine norm_ (a' := ?_) ?_ ?_
                      rotate_left
                      ·simp only [putAll, Act.put, List.setIfInBounds_toArray, List.set_cons_zero, List.set_cons_succ]
                       rfl
                      refine two_ (i := 8) (j := 29) (Ni := some 22) (Nj := some 5) #[true, true, true, true, true, true, true, true, true, true, true, true, true, true, true, true, true, true, true, true, true, false, true, true, false, true, true, false, false, false, false] #[true, true, true, true, true, true, true, true, false, true, true, true, true, true, true, true, true, true, true, true, true, false, true, true, false, true, true, false, false, true, false] rfl rfl rfl rfl (two_of HT_.out (by kernel_rfl)) (by decide) (by decide) (fun K hK => ?_) (fun K hK => ?_)
                      ·skip
                       refine goes_ Try.func81 (by kernel_rfl) rfl #[.slice A31 y301.length c31] (by rfl) rfl rfl (by (try simp only [List.map_toArray, List.map_cons, List.map_nil]); first | done | rfl | (simp only [List.length_drop, List.length_take]; rfl)) ?_
                       with_reducible refine (impl_take.calls k1 _ _ y301 t306 _ ?side1 ?side2 A11.out).mono ?_
                       (case side1 => repeat (first | exact (Kd.V_reads' HO305.out).2.2 | (with_reducible refine Kd.C_alloc ?_ _) | (with_reducible refine Kd.C_drewN ?_ _) | (with_reducible refine Kd.C_drew ?_)))
                       (case side2 => exact (Kd.V_reads' HO305.out).2.1)
                       rintro e w' ⟨rfl, ⟨nd, rfl⟩⟩
                       refine ⟨_, rfl, ?_⟩
                       refine hK.out _ _ ⟨hHeld.1, hHeld.2⟩ (fun hHeld => ?_)
                       clear hK K
                       refine norm_ (a' := ?_) ?_ ?_
                       rotate_left
                       ·show Act.put _ (some 22) _ = _
                        simp only [Act.put, List.setIfInBounds_toArray, List.set_cons_zero, List.set_cons_succ, i64_w, i32_w]
                        rfl
                       exact norm_ (by first | (simp only [putAll, Act.put, List.setIfInBounds_toArray, List.set_cons_zero, List.set_cons_succ]; done) | (simp only [putAll, Act.put, List.setIfInBounds_toArray, List.set_cons_zero, List.set_cons_succ]; rfl)) (hJ2_5_8 () _ ⟨hHeld, (by (with_reducible repeat (first | apply Kd.V_alloc | apply Kd.V_drewN | apply Kd.V_drew)); exact HO288.out), (by (with_reducible repeat (first | apply Kd.V_alloc | apply Kd.V_drewN | apply Kd.V_drew)); exact HO293.out), (by (with_reducible repeat (first | apply Kd.V_alloc | apply Kd.V_drewN | apply Kd.V_drew)); exact HO299.out), (by (with_reducible repeat (first | apply Kd.V_alloc | apply Kd.V_drewN | apply Kd.V_drew)); exact HO305.out), (by (with_reducible repeat (first | apply Kd.V_alloc | apply Kd.V_drewN | apply Kd.V_drew)); exact HO313.out), (by (with_reducible repeat (first | apply Kd.V_alloc | apply Kd.V_drewN | apply Kd.V_drew)); exact HO319.out), (by (with_reducible repeat (first | apply Kd.V_alloc | apply Kd.V_drewN | apply Kd.V_drew)); exact HO325.out), (by (with_reducible repeat (first | apply Kd.V_alloc | apply Kd.V_drewN | apply Kd.V_drew)); exact HO_0.out), (by (with_reducible repeat (first | apply Kd.R_alloc | apply Kd.R_drewN | apply Kd.R_drew)); exact HO_3.out), (by repeat (first | (with_reducible first | exact HB.out | apply below_alloc | apply pw_below_drewN | apply below_drew1) | exact HB.out))⟩)
                      ·skip
                       refine box_step ?hg (N := 5) ?hd (cs := #[.int .i64 0, .int .i64 0, .int .i64 0, .bool false, .int .i64 0, .bool false, .int .i64 0, .int .i64 0]) (t := 48) ?hr ?_; (case hd => rfl); (case hg => rfl); (case hr => first | (go_simp; done) | (go_simp; rfl))
                       intro gb327 hg w36 hbox hb
                       have HS0_ := (hb.cell (World.block_lt_of_cell? _ _ (hHeld.1))).trans (hHeld.1)
                       have HS1_ := (hb.cell (World.block_lt_of_cell? _ _ (hHeld.2))).trans (hHeld.2)
                       have n0_ := Aside0.mk (Kd.V_below (Kd.V_elderB (by (with_reducible repeat (first | apply Kd.V_alloc | apply Kd.V_drewN | apply Kd.V_drew)); exact HO_0.out) gb327 (Nat.le_of_eq hg.symm)) hb)
                       have n1_ := Aside0.mk (Kd.R_below (Kd.R_elderB (by (with_reducible repeat (first | apply Kd.R_alloc | apply Kd.R_drewN | apply Kd.R_drew)); exact HO_3.out) gb327 (Nat.le_of_eq hg.symm)) hb)
                       have n2_ := Aside0.mk (Kd.V_below (Kd.V_elderB (by (with_reducible repeat (first | apply Kd.V_alloc | apply Kd.V_drewN | apply Kd.V_drew)); exact HO288.out) gb327 (Nat.le_of_eq hg.symm)) hb)
                       have n3_ := Aside0.mk (Kd.V_below (Kd.V_elderB (by (with_reducible repeat (first | apply Kd.V_alloc | apply Kd.V_drewN | apply Kd.V_drew)); exact HO293.out) gb327 (Nat.le_of_eq hg.symm)) hb)
                       have n4_ := Aside0.mk (Kd.V_below (Kd.V_elderB (by (with_reducible repeat (first | apply Kd.V_alloc | apply Kd.V_drewN | apply Kd.V_drew)); exact HO299.out) gb327 (Nat.le_of_eq hg.symm)) hb)
                       have n5_ := Aside0.mk (Kd.V_below (Kd.V_elderB (by (with_reducible repeat (first | apply Kd.V_alloc | apply Kd.V_drewN | apply Kd.V_drew)); exact HO305.out) gb327 (Nat.le_of_eq hg.symm)) hb)
                       have n6_ := Aside0.mk (Kd.V_below (Kd.V_elderB (by (with_reducible repeat (first | apply Kd.V_alloc | apply Kd.V_drewN | apply Kd.V_drew)); exact HO313.out) gb327 (Nat.le_of_eq hg.symm)) hb)
                       have n7_ := Aside0.mk (Kd.V_below (Kd.V_elderB (by (with_reducible repeat (first | apply Kd.V_alloc | apply Kd.V_drewN | apply Kd.V_drew)); exact HO319.out) gb327 (Nat.le_of_eq hg.symm)) hb)
                       have n8_ := Aside0.mk (Kd.V_below (Kd.V_elderB (by (with_reducible repeat (first | apply Kd.V_alloc | apply Kd.V_drewN | apply Kd.V_drew)); exact HO325.out) gb327 (Nat.le_of_eq hg.symm)) hb)
                       have n9_ := Aside0.mk (below_step (by repeat (first | (with_reducible first | exact HB.out | apply below_alloc | apply pw_below_drewN | apply below_drew1) | exact HB.out)) hb)
                       have n10_ := Aside0.mk (hbox)
                       have n11_ := Aside0.mk ((by rw [hg]; exact (below_size (by repeat (first | (with_reducible first | exact HB.out | apply below_alloc | apply pw_below_drewN | apply below_drew1) | exact HB.out))) : w.heap.size ≤ gb327))
                       have n12_ := Aside0.mk ((by rw [hg]; exact (below_size (by repeat (first | (with_reducible first | exact HB.out | apply below_alloc | apply pw_below_drewN | apply below_drew1) | exact HB.out))) : w.heap.size ≤ gb327))
                       clear HO_0
                       clear HO_3
                       clear HO288
                       clear HO293
                       clear HO299
                       clear HO305
                       clear HO313
                       clear HO319
                       clear HO325
                       clear HB
                       have HO_0 := n0_
                       have HO_3 := n1_
                       have HO288 := n2_
                       have HO293 := n3_
                       have HO299 := n4_
                       have HO305 := n5_
                       have HO313 := n6_
                       have HO319 := n7_
                       have HO325 := n8_
                       have HB := n9_
                       have BK327 := n10_
                       have GW327 := n11_
                       have GE327 := n12_
                       clear n0_ n1_ n2_ n3_ n4_ n5_ n6_ n7_ n8_ n9_ n10_ n11_ n12_
                       clear hb hbox hg
                       refine hK.out _ _ ⟨HS0_, HS1_⟩ (fun hHeld => ?_)
                       clear hK K
                       refine norm_ (a' := ?_) ?_ ?_
                       rotate_left
                       ·show Act.put _ (some 5) _ = _
                        simp only [Act.put, List.setIfInBounds_toArray, List.set_cons_zero, List.set_cons_succ, i64_w, i32_w]
                        rfl
                       exact norm_ (by first | (simp only [putAll, Act.put, List.setIfInBounds_toArray, List.set_cons_zero, List.set_cons_succ]; done) | (simp only [putAll, Act.put, List.setIfInBounds_toArray, List.set_cons_zero, List.set_cons_succ]; rfl)) (hJ2_5_29 (gb327) _ ⟨hHeld, (by (with_reducible repeat (first | apply Kd.V_alloc | apply Kd.V_drewN | apply Kd.V_drew)); exact Kd.V_mono HO288.out (fun _ hk => ⟨hk.1.1, ⟨hk.1.2, hk.2⟩⟩)), (by (with_reducible repeat (first | apply Kd.V_alloc | apply Kd.V_drewN | apply Kd.V_drew)); exact Kd.V_mono HO293.out (fun _ hk => ⟨hk.1.1, ⟨hk.1.2, hk.2⟩⟩)), (by (with_reducible repeat (first | apply Kd.V_alloc | apply Kd.V_drewN | apply Kd.V_drew)); exact Kd.V_mono HO299.out (fun _ hk => ⟨hk.1.1, ⟨hk.1.2, hk.2⟩⟩)), (by (with_reducible repeat (first | apply Kd.V_alloc | apply Kd.V_drewN | apply Kd.V_drew)); exact Kd.V_mono HO305.out (fun _ hk => ⟨hk.1.1, ⟨hk.1.2, hk.2⟩⟩)), (by (with_reducible repeat (first | apply Kd.V_alloc | apply Kd.V_drewN | apply Kd.V_drew)); exact Kd.V_mono HO313.out (fun _ hk => ⟨hk.1.1, ⟨hk.1.2, hk.2⟩⟩)), (by (with_reducible repeat (first | apply Kd.V_alloc | apply Kd.V_drewN | apply Kd.V_drew)); exact Kd.V_mono HO319.out (fun _ hk => ⟨hk.1.1, ⟨hk.1.2, hk.2⟩⟩)), (by (with_reducible repeat (first | apply Kd.V_alloc | apply Kd.V_drewN | apply Kd.V_drew)); exact Kd.V_mono HO325.out (fun _ hk => ⟨hk.1.1, ⟨hk.1.2, hk.2⟩⟩)), (by (with_reducible repeat (first | apply Kd.V_alloc | apply Kd.V_drewN | apply Kd.V_drew)); exact Kd.V_mono HO_0.out (fun _ hk => ⟨hk.1.1, ⟨hk.1.2, hk.2⟩⟩)), (by (with_reducible repeat (first | apply Kd.R_alloc | apply Kd.R_drewN | apply Kd.R_drew)); exact HO_3.out), (by (with_reducible repeat (first | refine blk_drewN ?_ _ | refine blk_drew ?_ | refine blk_alloc ?_ _)); exact BK327.out), GW327.out, GE327.out, (by repeat (first | (with_reducible first | exact HB.out | apply below_alloc | apply pw_below_drewN | apply below_drew1 | refine below_set ?_ GE327.out) | exact HB.out))⟩)
                    ·skip
                     rintro gb327 w36 ⟨hS_, h0_, h1_, h2_, h3_, h4_, h5_, h6_, h7_, h8_, h9_, h10_, h11_, h12_⟩
                     have n0_ : Aside0 (Kd.V (Kd.int .u8) 5 w36 w.heap.size (fun k_ => (P0_ k_ ∨ w.heap.size ≤ k_) ∧ some k_ ≠ (u3 : Value).ownBlock ∧ k_ ≠ gb327) (.slice (some ad307) y284.length co26) y284) := ⟨h0_⟩
                     have n1_ : Aside0 (Kd.V (Kd.int .u8) 5 w36 w.heap.size (fun k_ => (P0_ k_ ∨ w.heap.size ≤ k_) ∧ some k_ ≠ (u3 : Value).ownBlock ∧ k_ ≠ gb327) (.slice (some ad307) y289.length co26) y289) := ⟨h1_⟩
                     have n2_ : Aside0 (Kd.V (Kd.int .u8) 5 w36 w.heap.size (fun k_ => (P0_ k_ ∨ w.heap.size ≤ k_) ∧ some k_ ≠ (u3 : Value).ownBlock ∧ k_ ≠ gb327) (.slice A30 y295.length c30) y295) := ⟨h2_⟩
                     have n3_ : Aside0 (Kd.V (Kd.int .u8) 5 w36 w.heap.size (fun k_ => (P0_ k_ ∨ w.heap.size ≤ k_) ∧ some k_ ≠ (u3 : Value).ownBlock ∧ k_ ≠ gb327) (.slice A31 y301.length c31) y301) := ⟨h3_⟩
                     have n4_ : Aside0 (Kd.V (Kd.int .u8) 5 w36 w.heap.size (fun k_ => (P0_ k_ ∨ w.heap.size ≤ k_) ∧ some k_ ≠ (u3 : Value).ownBlock ∧ k_ ≠ gb327) (.slice A32 y309.length c32) y309) := ⟨h4_⟩
                     have n5_ : Aside0 (Kd.V (Kd.int .u8) 5 w36 w.heap.size (fun k_ => (P0_ k_ ∨ w.heap.size ≤ k_) ∧ some k_ ≠ (u3 : Value).ownBlock ∧ k_ ≠ gb327) (.slice A33 y315.length c33) y315) := ⟨h5_⟩
                     have n6_ : Aside0 (Kd.V (Kd.int .u8) 5 w36 w.heap.size (fun k_ => (P0_ k_ ∨ w.heap.size ≤ k_) ∧ some k_ ≠ (u3 : Value).ownBlock ∧ k_ ≠ gb327) (.slice A34 y321.length c34) y321) := ⟨h6_⟩
                     have n7_ : Aside0 (Kd.V (Kd.int .u8) 5 w36 w.heap.size (fun k_ => (P0_ k_ ∨ w.heap.size ≤ k_) ∧ some k_ ≠ (u3 : Value).ownBlock ∧ k_ ≠ gb327) (.slice (some ad307) x0_1.length co26) x0_1) := ⟨h7_⟩
                     have n8_ : Aside0 (Kd.R k48 48 w36 w.heap.size (fun k_ => (w.heap.size ≤ k_) ∧ k_ ≠ gb327) u3 x3_1) := ⟨h8_⟩
                     have n9_ : Aside0 (w36.heap[gb327]? = some (.cells #[.int .i64 0, .int .i64 0, .int .i64 0, .bool false, .int .i64 0, .bool false, .int .i64 0, .int .i64 0] 48 (0, 0))) := ⟨h9_⟩
                     have n10_ : Aside0 (w.heap.size ≤ gb327) := ⟨h10_⟩
                     have n11_ : Aside0 (w.heap.size ≤ gb327) := ⟨h11_⟩
                     have n12_ : Aside0 (Below w.heap.size w w36) := ⟨h12_⟩
                     clear HO_0
                     clear HO_3
                     clear HO288
                     clear HB
                     clear h0_ h1_ h2_ h3_ h4_ h5_ h6_ h7_ h8_ h9_ h10_ h11_ h12_
                     have HO288 := n0_
                     have HO293 := n1_
                     have HO299 := n2_
                     have HO305 := n3_
                     have HO313 := n4_
                     have HO319 := n5_
                     have HO325 := n6_
                     have HO_0 := n7_
                     have HO_3 := n8_
                     have BK327 := n9_
                     have GW327 := n10_
                     have GE327 := n11_
                     have HB := n12_
                     clear n0_ n1_ n2_ n3_ n4_ n5_ n6_ n7_ n8_ n9_ n10_ n11_ n12_
                     have hHeld : w36.cell? ⟨ad307.block, ad307.off + 4, none⟩ = some (.int .u8 (rd y284 4)) ∧ w36.cell? ⟨ad307.block, ad307.off + 4, none⟩ = some (.int .u8 (rd y284 4)) := hS_
                     refine norm_ (a' := ?_) ?_ ?_
                     rotate_left
                     ·simp only [putAll, Act.put, List.setIfInBounds_toArray, List.set_cons_zero, List.set_cons_succ]
                      rfl
                     refine one_ (i := 8) (N := some 22) #[true, true, true, true, true, true, true, true, true, true, true, true, true, true, true, true, true, true, true, true, true, false, true, true, false, true, true, false, false, true, false] rfl rfl (one_of HT_.out (by kernel_rfl)) (by decide) (fun K hK => ?_)
                     refine goes_ Try.func81 (by kernel_rfl) rfl #[.slice A31 y301.length c31] (by rfl) rfl rfl (by (try simp only [List.map_toArray, List.map_cons, List.map_nil]); first | done | rfl | (simp only [List.length_drop, List.length_take]; rfl)) ?_
                     with_reducible refine (impl_take.calls k1 _ _ y301 t306 _ ?side1 ?side2 A11.out).mono ?_
                     (case side1 => repeat (first | exact (Kd.V_reads' HO305.out).2.2 | (with_reducible refine Kd.C_alloc ?_ _) | (with_reducible refine Kd.C_drewN ?_ _) | (with_reducible refine Kd.C_drew ?_)))
                     (case side2 => exact (Kd.V_reads' HO305.out).2.1)
                     rintro e w' ⟨rfl, ⟨nd, rfl⟩⟩
                     refine ⟨_, rfl, ?_⟩
                     refine hK.out _ _ ⟨hHeld.1, hHeld.2⟩ (fun hHeld => ?_)
                     clear hK K
                     refine norm_ (a' := ?_) ?_ ?_
                     rotate_left
                     ·show Act.put _ (some 22) _ = _
                      simp only [Act.put, List.setIfInBounds_toArray, List.set_cons_zero, List.set_cons_succ, i64_w, i32_w]
                      rfl
                     exact norm_ (by first | (simp only [putAll, Act.put, List.setIfInBounds_toArray, List.set_cons_zero, List.set_cons_succ]; done) | (simp only [putAll, Act.put, List.setIfInBounds_toArray, List.set_cons_zero, List.set_cons_succ]; rfl)) (hJ2_5_8_29 (gb327) _ ⟨hHeld, (by (with_reducible repeat (first | apply Kd.V_alloc | apply Kd.V_drewN | apply Kd.V_drew)); exact HO288.out), (by (with_reducible repeat (first | apply Kd.V_alloc | apply Kd.V_drewN | apply Kd.V_drew)); exact HO293.out), (by (with_reducible repeat (first | apply Kd.V_alloc | apply Kd.V_drewN | apply Kd.V_drew)); exact HO299.out), (by (with_reducible repeat (first | apply Kd.V_alloc | apply Kd.V_drewN | apply Kd.V_drew)); exact HO305.out), (by (with_reducible repeat (first | apply Kd.V_alloc | apply Kd.V_drewN | apply Kd.V_drew)); exact HO313.out), (by (with_reducible repeat (first | apply Kd.V_alloc | apply Kd.V_drewN | apply Kd.V_drew)); exact HO319.out), (by (with_reducible repeat (first | apply Kd.V_alloc | apply Kd.V_drewN | apply Kd.V_drew)); exact HO325.out), (by (with_reducible repeat (first | apply Kd.V_alloc | apply Kd.V_drewN | apply Kd.V_drew)); exact HO_0.out), (by (with_reducible repeat (first | apply Kd.R_alloc | apply Kd.R_drewN | apply Kd.R_drew)); exact HO_3.out), (by (with_reducible repeat (first | refine blk_drewN ?_ _ | refine blk_drew ?_ | refine blk_alloc ?_ _)); exact BK327.out), GW327.out, GE327.out, (by repeat (first | (with_reducible first | exact HB.out | apply below_alloc | apply pw_below_drewN | apply below_drew1 | refine below_set ?_ GE327.out) | exact HB.out))⟩)
                   ·skip
                    rintro _ w35 ⟨hS_, h0_, h1_, h2_, h3_, h4_, h5_, h6_, h7_, h8_, h9_⟩
                    have n0_ : Aside0 (Kd.V (Kd.int .u8) 5 w35 w.heap.size (fun k_ => (P0_ k_ ∨ w.heap.size ≤ k_) ∧ some k_ ≠ (u3 : Value).ownBlock) (.slice (some ad307) y284.length co26) y284) := ⟨h0_⟩
                    have n1_ : Aside0 (Kd.V (Kd.int .u8) 5 w35 w.heap.size (fun k_ => (P0_ k_ ∨ w.heap.size ≤ k_) ∧ some k_ ≠ (u3 : Value).ownBlock) (.slice (some ad307) y289.length co26) y289) := ⟨h1_⟩
                    have n2_ : Aside0 (Kd.V (Kd.int .u8) 5 w35 w.heap.size (fun k_ => (P0_ k_ ∨ w.heap.size ≤ k_) ∧ some k_ ≠ (u3 : Value).ownBlock) (.slice A30 y295.length c30) y295) := ⟨h2_⟩
                    have n3_ : Aside0 (Kd.V (Kd.int .u8) 5 w35 w.heap.size (fun k_ => (P0_ k_ ∨ w.heap.size ≤ k_) ∧ some k_ ≠ (u3 : Value).ownBlock) (.slice A31 y301.length c31) y301) := ⟨h3_⟩
                    have n4_ : Aside0 (Kd.V (Kd.int .u8) 5 w35 w.heap.size (fun k_ => (P0_ k_ ∨ w.heap.size ≤ k_) ∧ some k_ ≠ (u3 : Value).ownBlock) (.slice A32 y309.length c32) y309) := ⟨h4_⟩
                    have n5_ : Aside0 (Kd.V (Kd.int .u8) 5 w35 w.heap.size (fun k_ => (P0_ k_ ∨ w.heap.size ≤ k_) ∧ some k_ ≠ (u3 : Value).ownBlock) (.slice A33 y315.length c33) y315) := ⟨h5_⟩
                    have n6_ : Aside0 (Kd.V (Kd.int .u8) 5 w35 w.heap.size (fun k_ => (P0_ k_ ∨ w.heap.size ≤ k_) ∧ some k_ ≠ (u3 : Value).ownBlock) (.slice A34 y321.length c34) y321) := ⟨h6_⟩
                    have n7_ : Aside0 (Kd.V (Kd.int .u8) 5 w35 w.heap.size (fun k_ => (P0_ k_ ∨ w.heap.size ≤ k_) ∧ some k_ ≠ (u3 : Value).ownBlock) (.slice (some ad307) x0_1.length co26) x0_1) := ⟨h7_⟩
                    have n8_ : Aside0 (Kd.R k48 48 w35 w.heap.size (fun k_ => (w.heap.size ≤ k_)) u3 x3_1) := ⟨h8_⟩
                    have n9_ : Aside0 (Below w.heap.size w w35) := ⟨h9_⟩
                    clear HO_0
                    clear HO_3
                    clear HO288
                    clear HB
                    clear h0_ h1_ h2_ h3_ h4_ h5_ h6_ h7_ h8_ h9_
                    have HO288 := n0_
                    have HO293 := n1_
                    have HO299 := n2_
                    have HO305 := n3_
                    have HO313 := n4_
                    have HO319 := n5_
                    have HO325 := n6_
                    have HO_0 := n7_
                    have HO_3 := n8_
                    have HB := n9_
                    clear n0_ n1_ n2_ n3_ n4_ n5_ n6_ n7_ n8_ n9_
                    have hHeld : w35.cell? ⟨ad307.block, ad307.off + 4, none⟩ = some (.int .u8 (rd y284 4)) ∧ w35.cell? ⟨ad307.block, ad307.off + 4, none⟩ = some (.int .u8 (rd y284 4)) := hS_
                    refine norm_ (a' := ?_) ?_ ?_
                    rotate_left
                    ·simp only [putAll, Act.put, List.setIfInBounds_toArray, List.set_cons_zero, List.set_cons_succ]
                     rfl
                    refine two_ (i := 21) (j := 29) (Ni := some 35) (Nj := some 5) #[true, true, true, true, true, true, true, true, true, true, true, true, true, true, true, true, true, true, true, true, true, true, true, true, false, true, true, false, false, false, false] #[true, true, true, true, true, true, true, true, true, true, true, true, true, true, true, true, true, true, true, true, true, false, true, true, false, true, true, false, false, true, false] rfl rfl rfl rfl (two_of HT_.out (by kernel_rfl)) (by decide) (by decide) (fun K hK => ?_) (fun K hK => ?_)
                    ·skip
                     refine goes_ Try.func81 (by kernel_rfl) rfl #[.slice A32 y309.length c32] (by rfl) rfl rfl (by (try simp only [List.map_toArray, List.map_cons, List.map_nil]); first | done | rfl | (simp only [List.length_drop, List.length_take]; rfl)) ?_
                     with_reducible refine (impl_take.calls k1 _ _ y309 t314 _ ?side1 ?side2 A14.out).mono ?_
                     (case side1 => repeat (first | exact (Kd.V_reads' HO313.out).2.2 | (with_reducible refine Kd.C_alloc ?_ _) | (with_reducible refine Kd.C_drewN ?_ _) | (with_reducible refine Kd.C_drew ?_)))
                     (case side2 => exact (Kd.V_reads' HO313.out).2.1)
                     rintro e w' ⟨rfl, ⟨nd, rfl⟩⟩
                     refine ⟨_, rfl, ?_⟩
                     refine hK.out _ _ ⟨hHeld.1, hHeld.2⟩ (fun hHeld => ?_)
                     clear hK K
                     refine norm_ (a' := ?_) ?_ ?_
                     rotate_left
                     ·show Act.put _ (some 35) _ = _
                      simp only [Act.put, List.setIfInBounds_toArray, List.set_cons_zero, List.set_cons_succ, i64_w, i32_w]
                      rfl
                     exact norm_ (by first | (simp only [putAll, Act.put, List.setIfInBounds_toArray, List.set_cons_zero, List.set_cons_succ]; done) | (simp only [putAll, Act.put, List.setIfInBounds_toArray, List.set_cons_zero, List.set_cons_succ]; rfl)) (hJ2_5_8_21 () _ ⟨hHeld, (by (with_reducible repeat (first | apply Kd.V_alloc | apply Kd.V_drewN | apply Kd.V_drew)); exact HO288.out), (by (with_reducible repeat (first | apply Kd.V_alloc | apply Kd.V_drewN | apply Kd.V_drew)); exact HO293.out), (by (with_reducible repeat (first | apply Kd.V_alloc | apply Kd.V_drewN | apply Kd.V_drew)); exact HO299.out), (by (with_reducible repeat (first | apply Kd.V_alloc | apply Kd.V_drewN | apply Kd.V_drew)); exact HO305.out), (by (with_reducible repeat (first | apply Kd.V_alloc | apply Kd.V_drewN | apply Kd.V_drew)); exact HO313.out), (by (with_reducible repeat (first | apply Kd.V_alloc | apply Kd.V_drewN | apply Kd.V_drew)); exact HO319.out), (by (with_reducible repeat (first | apply Kd.V_alloc | apply Kd.V_drewN | apply Kd.V_drew)); exact HO325.out), (by (with_reducible repeat (first | apply Kd.V_alloc | apply Kd.V_drewN | apply Kd.V_drew)); exact HO_0.out), (by (with_reducible repeat (first | apply Kd.R_alloc | apply Kd.R_drewN | apply Kd.R_drew)); exact HO_3.out), (by repeat (first | (with_reducible first | exact HB.out | apply below_alloc | apply pw_below_drewN | apply below_drew1) | exact HB.out))⟩)
                    ·skip
                     refine box_step ?hg (N := 5) ?hd (cs := #[.int .i64 0, .int .i64 0, .int .i64 0, .bool false, .int .i64 0, .bool false, .int .i64 0, .int .i64 0]) (t := 48) ?hr ?_; (case hd => rfl); (case hg => rfl); (case hr => first | (go_simp; done) | (go_simp; rfl))
                     intro gb327 hg w36 hbox hb
                     have HS0_ := (hb.cell (World.block_lt_of_cell? _ _ (hHeld.1))).trans (hHeld.1)
                     have HS1_ := (hb.cell (World.block_lt_of_cell? _ _ (hHeld.2))).trans (hHeld.2)
                     have n0_ := Aside0.mk (Kd.V_below (Kd.V_elderB (by (with_reducible repeat (first | apply Kd.V_alloc | apply Kd.V_drewN | apply Kd.V_drew)); exact HO_0.out) gb327 (Nat.le_of_eq hg.symm)) hb)
                     have n1_ := Aside0.mk (Kd.R_below (Kd.R_elderB (by (with_reducible repeat (first | apply Kd.R_alloc | apply Kd.R_drewN | apply Kd.R_drew)); exact HO_3.out) gb327 (Nat.le_of_eq hg.symm)) hb)
                     have n2_ := Aside0.mk (Kd.V_below (Kd.V_elderB (by (with_reducible repeat (first | apply Kd.V_alloc | apply Kd.V_drewN | apply Kd.V_drew)); exact HO288.out) gb327 (Nat.le_of_eq hg.symm)) hb)
                     have n3_ := Aside0.mk (Kd.V_below (Kd.V_elderB (by (with_reducible repeat (first | apply Kd.V_alloc | apply Kd.V_drewN | apply Kd.V_drew)); exact HO293.out) gb327 (Nat.le_of_eq hg.symm)) hb)
                     have n4_ := Aside0.mk (Kd.V_below (Kd.V_elderB (by (with_reducible repeat (first | apply Kd.V_alloc | apply Kd.V_drewN | apply Kd.V_drew)); exact HO299.out) gb327 (Nat.le_of_eq hg.symm)) hb)
                     have n5_ := Aside0.mk (Kd.V_below (Kd.V_elderB (by (with_reducible repeat (first | apply Kd.V_alloc | apply Kd.V_drewN | apply Kd.V_drew)); exact HO305.out) gb327 (Nat.le_of_eq hg.symm)) hb)
                     have n6_ := Aside0.mk (Kd.V_below (Kd.V_elderB (by (with_reducible repeat (first | apply Kd.V_alloc | apply Kd.V_drewN | apply Kd.V_drew)); exact HO313.out) gb327 (Nat.le_of_eq hg.symm)) hb)
                     have n7_ := Aside0.mk (Kd.V_below (Kd.V_elderB (by (with_reducible repeat (first | apply Kd.V_alloc | apply Kd.V_drewN | apply Kd.V_drew)); exact HO319.out) gb327 (Nat.le_of_eq hg.symm)) hb)
                     have n8_ := Aside0.mk (Kd.V_below (Kd.V_elderB (by (with_reducible repeat (first | apply Kd.V_alloc | apply Kd.V_drewN | apply Kd.V_drew)); exact HO325.out) gb327 (Nat.le_of_eq hg.symm)) hb)
                     have n9_ := Aside0.mk (below_step (by repeat (first | (with_reducible first | exact HB.out | apply below_alloc | apply pw_below_drewN | apply below_drew1) | exact HB.out)) hb)
                     have n10_ := Aside0.mk (hbox)
                     have n11_ := Aside0.mk ((by rw [hg]; exact (below_size (by repeat (first | (with_reducible first | exact HB.out | apply below_alloc | apply pw_below_drewN | apply below_drew1) | exact HB.out))) : w.heap.size ≤ gb327))
                     have n12_ := Aside0.mk ((by rw [hg]; exact (below_size (by repeat (first | (with_reducible first | exact HB.out | apply below_alloc | apply pw_below_drewN | apply below_drew1) | exact HB.out))) : w.heap.size ≤ gb327))
                     clear HO_0
                     clear HO_3
                     clear HO288
                     clear HO293
                     clear HO299
                     clear HO305
                     clear HO313
                     clear HO319
                     clear HO325
                     clear HB
                     have HO_0 := n0_
                     have HO_3 := n1_
                     have HO288 := n2_
                     have HO293 := n3_
                     have HO299 := n4_
                     have HO305 := n5_
                     have HO313 := n6_
                     have HO319 := n7_
                     have HO325 := n8_
                     have HB := n9_
                     have BK327 := n10_
                     have GW327 := n11_
                     have GE327 := n12_
                     clear n0_ n1_ n2_ n3_ n4_ n5_ n6_ n7_ n8_ n9_ n10_ n11_ n12_
                     clear hb hbox hg
                     refine hK.out _ _ ⟨HS0_, HS1_⟩ (fun hHeld => ?_)
                     clear hK K
                     refine norm_ (a' := ?_) ?_ ?_
                     rotate_left
                     ·show Act.put _ (some 5) _ = _
                      simp only [Act.put, List.setIfInBounds_toArray, List.set_cons_zero, List.set_cons_succ, i64_w, i32_w]
                      rfl
                     exact norm_ (by first | (simp only [putAll, Act.put, List.setIfInBounds_toArray, List.set_cons_zero, List.set_cons_succ]; done) | (simp only [putAll, Act.put, List.setIfInBounds_toArray, List.set_cons_zero, List.set_cons_succ]; rfl)) (hJ2_5_8_29 (gb327) _ ⟨hHeld, (by (with_reducible repeat (first | apply Kd.V_alloc | apply Kd.V_drewN | apply Kd.V_drew)); exact Kd.V_mono HO288.out (fun _ hk => ⟨hk.1.1, ⟨hk.1.2, hk.2⟩⟩)), (by (with_reducible repeat (first | apply Kd.V_alloc | apply Kd.V_drewN | apply Kd.V_drew)); exact Kd.V_mono HO293.out (fun _ hk => ⟨hk.1.1, ⟨hk.1.2, hk.2⟩⟩)), (by (with_reducible repeat (first | apply Kd.V_alloc | apply Kd.V_drewN | apply Kd.V_drew)); exact Kd.V_mono HO299.out (fun _ hk => ⟨hk.1.1, ⟨hk.1.2, hk.2⟩⟩)), (by (with_reducible repeat (first | apply Kd.V_alloc | apply Kd.V_drewN | apply Kd.V_drew)); exact Kd.V_mono HO305.out (fun _ hk => ⟨hk.1.1, ⟨hk.1.2, hk.2⟩⟩)), (by (with_reducible repeat (first | apply Kd.V_alloc | apply Kd.V_drewN | apply Kd.V_drew)); exact Kd.V_mono HO313.out (fun _ hk => ⟨hk.1.1, ⟨hk.1.2, hk.2⟩⟩)), (by (with_reducible repeat (first | apply Kd.V_alloc | apply Kd.V_drewN | apply Kd.V_drew)); exact Kd.V_mono HO319.out (fun _ hk => ⟨hk.1.1, ⟨hk.1.2, hk.2⟩⟩)), (by (with_reducible repeat (first | apply Kd.V_alloc | apply Kd.V_drewN | apply Kd.V_drew)); exact Kd.V_mono HO325.out (fun _ hk => ⟨hk.1.1, ⟨hk.1.2, hk.2⟩⟩)), (by (with_reducible repeat (first | apply Kd.V_alloc | apply Kd.V_drewN | apply Kd.V_drew)); exact Kd.V_mono HO_0.out (fun _ hk => ⟨hk.1.1, ⟨hk.1.2, hk.2⟩⟩)), (by (with_reducible repeat (first | apply Kd.R_alloc | apply Kd.R_drewN | apply Kd.R_drew)); exact HO_3.out), (by (with_reducible repeat (first | refine blk_drewN ?_ _ | refine blk_drew ?_ | refine blk_alloc ?_ _)); exact BK327.out), GW327.out, GE327.out, (by repeat (first | (with_reducible first | exact HB.out | apply below_alloc | apply pw_below_drewN | apply below_drew1 | refine below_set ?_ GE327.out) | exact HB.out))⟩)
                  ·skip
                   rintro gb327 w36 ⟨hS_, h0_, h1_, h2_, h3_, h4_, h5_, h6_, h7_, h8_, h9_, h10_, h11_, h12_⟩
                   have n0_ : Aside0 (Kd.V (Kd.int .u8) 5 w36 w.heap.size (fun k_ => (P0_ k_ ∨ w.heap.size ≤ k_) ∧ some k_ ≠ (u3 : Value).ownBlock ∧ k_ ≠ gb327) (.slice (some ad307) y284.length co26) y284) := ⟨h0_⟩
                   have n1_ : Aside0 (Kd.V (Kd.int .u8) 5 w36 w.heap.size (fun k_ => (P0_ k_ ∨ w.heap.size ≤ k_) ∧ some k_ ≠ (u3 : Value).ownBlock ∧ k_ ≠ gb327) (.slice (some ad307) y289.length co26) y289) := ⟨h1_⟩
                   have n2_ : Aside0 (Kd.V (Kd.int .u8) 5 w36 w.heap.size (fun k_ => (P0_ k_ ∨ w.heap.size ≤ k_) ∧ some k_ ≠ (u3 : Value).ownBlock ∧ k_ ≠ gb327) (.slice A30 y295.length c30) y295) := ⟨h2_⟩
                   have n3_ : Aside0 (Kd.V (Kd.int .u8) 5 w36 w.heap.size (fun k_ => (P0_ k_ ∨ w.heap.size ≤ k_) ∧ some k_ ≠ (u3 : Value).ownBlock ∧ k_ ≠ gb327) (.slice A31 y301.length c31) y301) := ⟨h3_⟩
                   have n4_ : Aside0 (Kd.V (Kd.int .u8) 5 w36 w.heap.size (fun k_ => (P0_ k_ ∨ w.heap.size ≤ k_) ∧ some k_ ≠ (u3 : Value).ownBlock ∧ k_ ≠ gb327) (.slice A32 y309.length c32) y309) := ⟨h4_⟩
                   have n5_ : Aside0 (Kd.V (Kd.int .u8) 5 w36 w.heap.size (fun k_ => (P0_ k_ ∨ w.heap.size ≤ k_) ∧ some k_ ≠ (u3 : Value).ownBlock ∧ k_ ≠ gb327) (.slice A33 y315.length c33) y315) := ⟨h5_⟩
                   have n6_ : Aside0 (Kd.V (Kd.int .u8) 5 w36 w.heap.size (fun k_ => (P0_ k_ ∨ w.heap.size ≤ k_) ∧ some k_ ≠ (u3 : Value).ownBlock ∧ k_ ≠ gb327) (.slice A34 y321.length c34) y321) := ⟨h6_⟩
                   have n7_ : Aside0 (Kd.V (Kd.int .u8) 5 w36 w.heap.size (fun k_ => (P0_ k_ ∨ w.heap.size ≤ k_) ∧ some k_ ≠ (u3 : Value).ownBlock ∧ k_ ≠ gb327) (.slice (some ad307) x0_1.length co26) x0_1) := ⟨h7_⟩
                   have n8_ : Aside0 (Kd.R k48 48 w36 w.heap.size (fun k_ => (w.heap.size ≤ k_) ∧ k_ ≠ gb327) u3 x3_1) := ⟨h8_⟩
                   have n9_ : Aside0 (w36.heap[gb327]? = some (.cells #[.int .i64 0, .int .i64 0, .int .i64 0, .bool false, .int .i64 0, .bool false, .int .i64 0, .int .i64 0] 48 (0, 0))) := ⟨h9_⟩
                   have n10_ : Aside0 (w.heap.size ≤ gb327) := ⟨h10_⟩
                   have n11_ : Aside0 (w.heap.size ≤ gb327) := ⟨h11_⟩
                   have n12_ : Aside0 (Below w.heap.size w w36) := ⟨h12_⟩
                   clear HO_0
                   clear HO_3
                   clear HO288
                   clear HB
                   clear h0_ h1_ h2_ h3_ h4_ h5_ h6_ h7_ h8_ h9_ h10_ h11_ h12_
                   have HO288 := n0_
                   have HO293 := n1_
                   have HO299 := n2_
                   have HO305 := n3_
                   have HO313 := n4_
                   have HO319 := n5_
                   have HO325 := n6_
                   have HO_0 := n7_
                   have HO_3 := n8_
                   have BK327 := n9_
                   have GW327 := n10_
                   have GE327 := n11_
                   have HB := n12_
                   clear n0_ n1_ n2_ n3_ n4_ n5_ n6_ n7_ n8_ n9_ n10_ n11_ n12_
                   have hHeld : w36.cell? ⟨ad307.block, ad307.off + 4, none⟩ = some (.int .u8 (rd y284 4)) ∧ w36.cell? ⟨ad307.block, ad307.off + 4, none⟩ = some (.int .u8 (rd y284 4)) := hS_
                   refine norm_ (a' := ?_) ?_ ?_
                   rotate_left
                   ·simp only [putAll, Act.put, List.setIfInBounds_toArray, List.set_cons_zero, List.set_cons_succ]
                    rfl
                   refine one_ (i := 21) (N := some 35) #[true, true, true, true, true, true, true, true, true, true, true, true, true, true, true, true, true, true, true, true, true, true, true, true, false, true, true, false, false, true, false] rfl rfl (one_of HT_.out (by kernel_rfl)) (by decide) (fun K hK => ?_)
                   refine goes_ Try.func81 (by kernel_rfl) rfl #[.slice A32 y309.length c32] (by rfl) rfl rfl (by (try simp only [List.map_toArray, List.map_cons, List.map_nil]); first | done | rfl | (simp only [List.length_drop, List.length_take]; rfl)) ?_
                   with_reducible refine (impl_take.calls k1 _ _ y309 t314 _ ?side1 ?side2 A14.out).mono ?_
                   (case side1 => repeat (first | exact (Kd.V_reads' HO313.out).2.2 | (with_reducible refine Kd.C_alloc ?_ _) | (with_reducible refine Kd.C_drewN ?_ _) | (with_reducible refine Kd.C_drew ?_)))
                   (case side2 => exact (Kd.V_reads' HO313.out).2.1)
                   rintro e w' ⟨rfl, ⟨nd, rfl⟩⟩
                   refine ⟨_, rfl, ?_⟩
                   refine hK.out _ _ ⟨hHeld.1, hHeld.2⟩ (fun hHeld => ?_)
                   clear hK K
                   refine norm_ (a' := ?_) ?_ ?_
                   rotate_left
                   ·show Act.put _ (some 35) _ = _
                    simp only [Act.put, List.setIfInBounds_toArray, List.set_cons_zero, List.set_cons_succ, i64_w, i32_w]
                    rfl
                   exact norm_ (by first | (simp only [putAll, Act.put, List.setIfInBounds_toArray, List.set_cons_zero, List.set_cons_succ]; done) | (simp only [putAll, Act.put, List.setIfInBounds_toArray, List.set_cons_zero, List.set_cons_succ]; rfl)) (hJ2_5_8_21_29 (gb327) _ ⟨hHeld, (by (with_reducible repeat (first | apply Kd.V_alloc | apply Kd.V_drewN | apply Kd.V_drew)); exact HO288.out), (by (with_reducible repeat (first | apply Kd.V_alloc | apply Kd.V_drewN | apply Kd.V_drew)); exact HO293.out), (by (with_reducible repeat (first | apply Kd.V_alloc | apply Kd.V_drewN | apply Kd.V_drew)); exact HO299.out), (by (with_reducible repeat (first | apply Kd.V_alloc | apply Kd.V_drewN | apply Kd.V_drew)); exact HO305.out), (by (with_reducible repeat (first | apply Kd.V_alloc | apply Kd.V_drewN | apply Kd.V_drew)); exact HO313.out), (by (with_reducible repeat (first | apply Kd.V_alloc | apply Kd.V_drewN | apply Kd.V_drew)); exact HO319.out), (by (with_reducible repeat (first | apply Kd.V_alloc | apply Kd.V_drewN | apply Kd.V_drew)); exact HO325.out), (by (with_reducible repeat (first | apply Kd.V_alloc | apply Kd.V_drewN | apply Kd.V_drew)); exact HO_0.out), (by (with_reducible repeat (first | apply Kd.R_alloc | apply Kd.R_drewN | apply Kd.R_drew)); exact HO_3.out), (by (with_reducible repeat (first | refine blk_drewN ?_ _ | refine blk_drew ?_ | refine blk_alloc ?_ _)); exact BK327.out), GW327.out, GE327.out, (by repeat (first | (with_reducible first | exact HB.out | apply below_alloc | apply pw_below_drewN | apply below_drew1 | refine below_set ?_ GE327.out) | exact HB.out))⟩)
                 ·skip
                  rintro _ w35 ⟨hS_, h0_, h1_, h2_, h3_, h4_, h5_, h6_, h7_, h8_, h9_⟩
                  have n0_ : Aside0 (Kd.V (Kd.int .u8) 5 w35 w.heap.size (fun k_ => (P0_ k_ ∨ w.heap.size ≤ k_) ∧ some k_ ≠ (u3 : Value).ownBlock) (.slice (some ad307) y284.length co26) y284) := ⟨h0_⟩
                  have n1_ : Aside0 (Kd.V (Kd.int .u8) 5 w35 w.heap.size (fun k_ => (P0_ k_ ∨ w.heap.size ≤ k_) ∧ some k_ ≠ (u3 : Value).ownBlock) (.slice (some ad307) y289.length co26) y289) := ⟨h1_⟩
                  have n2_ : Aside0 (Kd.V (Kd.int .u8) 5 w35 w.heap.size (fun k_ => (P0_ k_ ∨ w.heap.size ≤ k_) ∧ some k_ ≠ (u3 : Value).ownBlock) (.slice A30 y295.length c30) y295) := ⟨h2_⟩
                  have n3_ : Aside0 (Kd.V (Kd.int .u8) 5 w35 w.heap.size (fun k_ => (P0_ k_ ∨ w.heap.size ≤ k_) ∧ some k_ ≠ (u3 : Value).ownBlock) (.slice A31 y301.length c31) y301) := ⟨h3_⟩
                  have n4_ : Aside0 (Kd.V (Kd.int .u8) 5 w35 w.heap.size (fun k_ => (P0_ k_ ∨ w.heap.size ≤ k_) ∧ some k_ ≠ (u3 : Value).ownBlock) (.slice A32 y309.length c32) y309) := ⟨h4_⟩
                  have n5_ : Aside0 (Kd.V (Kd.int .u8) 5 w35 w.heap.size (fun k_ => (P0_ k_ ∨ w.heap.size ≤ k_) ∧ some k_ ≠ (u3 : Value).ownBlock) (.slice A33 y315.length c33) y315) := ⟨h5_⟩
                  have n6_ : Aside0 (Kd.V (Kd.int .u8) 5 w35 w.heap.size (fun k_ => (P0_ k_ ∨ w.heap.size ≤ k_) ∧ some k_ ≠ (u3 : Value).ownBlock) (.slice A34 y321.length c34) y321) := ⟨h6_⟩
                  have n7_ : Aside0 (Kd.V (Kd.int .u8) 5 w35 w.heap.size (fun k_ => (P0_ k_ ∨ w.heap.size ≤ k_) ∧ some k_ ≠ (u3 : Value).ownBlock) (.slice (some ad307) x0_1.length co26) x0_1) := ⟨h7_⟩
                  have n8_ : Aside0 (Kd.R k48 48 w35 w.heap.size (fun k_ => (w.heap.size ≤ k_)) u3 x3_1) := ⟨h8_⟩
                  have n9_ : Aside0 (Below w.heap.size w w35) := ⟨h9_⟩
                  clear HO_0
                  clear HO_3
                  clear HO288
                  clear HB
                  clear h0_ h1_ h2_ h3_ h4_ h5_ h6_ h7_ h8_ h9_
                  have HO288 := n0_
                  have HO293 := n1_
                  have HO299 := n2_
                  have HO305 := n3_
                  have HO313 := n4_
                  have HO319 := n5_
                  have HO325 := n6_
                  have HO_0 := n7_
                  have HO_3 := n8_
                  have HB := n9_
                  clear n0_ n1_ n2_ n3_ n4_ n5_ n6_ n7_ n8_ n9_
                  have hHeld : w35.cell? ⟨ad307.block, ad307.off + 4, none⟩ = some (.int .u8 (rd y284 4)) ∧ w35.cell? ⟨ad307.block, ad307.off + 4, none⟩ = some (.int .u8 (rd y284 4)) := hS_
                  refine norm_ (a' := ?_) ?_ ?_
                  rotate_left
                  ·simp only [putAll, Act.put, List.setIfInBounds_toArray, List.set_cons_zero, List.set_cons_succ]
                   rfl
                  refine two_ (i := 24) (j := 29) (Ni := some 38) (Nj := some 5) #[true, true, true, true, true, true, true, true, true, true, true, true, true, true, true, true, true, true, true, true, true, true, true, true, true, true, true, false, false, false, false] #[true, true, true, true, true, true, true, true, true, true, true, true, true, true, true, true, true, true, true, true, true, true, true, true, false, true, true, false, false, true, false] rfl rfl rfl rfl (two_of HT_.out (by kernel_rfl)) (by decide) (by decide) (fun K hK => ?_) (fun K hK => ?_)
                  ·skip
                   refine goes_ Try.func81 (by kernel_rfl) rfl #[.slice A33 y315.length c33] (by rfl) rfl rfl (by (try simp only [List.map_toArray, List.map_cons, List.map_nil]); first | done | rfl | (simp only [List.length_drop, List.length_take]; rfl)) ?_
                   with_reducible refine (impl_take.calls k1 _ _ y315 t320 _ ?side1 ?side2 A16.out).mono ?_
                   (case side1 => repeat (first | exact (Kd.V_reads' HO319.out).2.2 | (with_reducible refine Kd.C_alloc ?_ _) | (with_reducible refine Kd.C_drewN ?_ _) | (with_reducible refine Kd.C_drew ?_)))
                   (case side2 => exact (Kd.V_reads' HO319.out).2.1)
                   rintro e w' ⟨rfl, ⟨nd, rfl⟩⟩
                   refine ⟨_, rfl, ?_⟩
                   refine hK.out _ _ ⟨hHeld.1, hHeld.2⟩ (fun hHeld => ?_)
                   clear hK K
                   refine norm_ (a' := ?_) ?_ ?_
                   rotate_left
                   ·show Act.put _ (some 38) _ = _
                    simp only [Act.put, List.setIfInBounds_toArray, List.set_cons_zero, List.set_cons_succ, i64_w, i32_w]
                    rfl
                   exact norm_ (by first | (simp only [putAll, Act.put, List.setIfInBounds_toArray, List.set_cons_zero, List.set_cons_succ]; done) | (simp only [putAll, Act.put, List.setIfInBounds_toArray, List.set_cons_zero, List.set_cons_succ]; rfl)) (hJ2_5_8_21_24 () _ ⟨hHeld, (by (with_reducible repeat (first | apply Kd.V_alloc | apply Kd.V_drewN | apply Kd.V_drew)); exact HO288.out), (by (with_reducible repeat (first | apply Kd.V_alloc | apply Kd.V_drewN | apply Kd.V_drew)); exact HO293.out), (by (with_reducible repeat (first | apply Kd.V_alloc | apply Kd.V_drewN | apply Kd.V_drew)); exact HO299.out), (by (with_reducible repeat (first | apply Kd.V_alloc | apply Kd.V_drewN | apply Kd.V_drew)); exact HO305.out), (by (with_reducible repeat (first | apply Kd.V_alloc | apply Kd.V_drewN | apply Kd.V_drew)); exact HO313.out), (by (with_reducible repeat (first | apply Kd.V_alloc | apply Kd.V_drewN | apply Kd.V_drew)); exact HO319.out), (by (with_reducible repeat (first | apply Kd.V_alloc | apply Kd.V_drewN | apply Kd.V_drew)); exact HO325.out), (by (with_reducible repeat (first | apply Kd.V_alloc | apply Kd.V_drewN | apply Kd.V_drew)); exact HO_0.out), (by (with_reducible repeat (first | apply Kd.R_alloc | apply Kd.R_drewN | apply Kd.R_drew)); exact HO_3.out), (by repeat (first | (with_reducible first | exact HB.out | apply below_alloc | apply pw_below_drewN | apply below_drew1) | exact HB.out))⟩)
                  ·skip
                   refine box_step ?hg (N := 5) ?hd (cs := #[.int .i64 0, .int .i64 0, .int .i64 0, .bool false, .int .i64 0, .bool false, .int .i64 0, .int .i64 0]) (t := 48) ?hr ?_; (case hd => rfl); (case hg => rfl); (case hr => first | (go_simp; done) | (go_simp; rfl))
                   intro gb327 hg w36 hbox hb
                   have HS0_ := (hb.cell (World.block_lt_of_cell? _ _ (hHeld.1))).trans (hHeld.1)
                   have HS1_ := (hb.cell (World.block_lt_of_cell? _ _ (hHeld.2))).trans (hHeld.2)
                   have n0_ := Aside0.mk (Kd.V_below (Kd.V_elderB (by (with_reducible repeat (first | apply Kd.V_alloc | apply Kd.V_drewN | apply Kd.V_drew)); exact HO_0.out) gb327 (Nat.le_of_eq hg.symm)) hb)
                   have n1_ := Aside0.mk (Kd.R_below (Kd.R_elderB (by (with_reducible repeat (first | apply Kd.R_alloc | apply Kd.R_drewN | apply Kd.R_drew)); exact HO_3.out) gb327 (Nat.le_of_eq hg.symm)) hb)
                   have n2_ := Aside0.mk (Kd.V_below (Kd.V_elderB (by (with_reducible repeat (first | apply Kd.V_alloc | apply Kd.V_drewN | apply Kd.V_drew)); exact HO288.out) gb327 (Nat.le_of_eq hg.symm)) hb)
                   have n3_ := Aside0.mk (Kd.V_below (Kd.V_elderB (by (with_reducible repeat (first | apply Kd.V_alloc | apply Kd.V_drewN | apply Kd.V_drew)); exact HO293.out) gb327 (Nat.le_of_eq hg.symm)) hb)
                   have n4_ := Aside0.mk (Kd.V_below (Kd.V_elderB (by (with_reducible repeat (first | apply Kd.V_alloc | apply Kd.V_drewN | apply Kd.V_drew)); exact HO299.out) gb327 (Nat.le_of_eq hg.symm)) hb)
                   have n5_ := Aside0.mk (Kd.V_below (Kd.V_elderB (by (with_reducible repeat (first | apply Kd.V_alloc | apply Kd.V_drewN | apply Kd.V_drew)); exact HO305.out) gb327 (Nat.le_of_eq hg.symm)) hb)
                   have n6_ := Aside0.mk (Kd.V_below (Kd.V_elderB (by (with_reducible repeat (first | apply Kd.V_alloc | apply Kd.V_drewN | apply Kd.V_drew)); exact HO313.out) gb327 (Nat.le_of_eq hg.symm)) hb)
                   have n7_ := Aside0.mk (Kd.V_below (Kd.V_elderB (by (with_reducible repeat (first | apply Kd.V_alloc | apply Kd.V_drewN | apply Kd.V_drew)); exact HO319.out) gb327 (Nat.le_of_eq hg.symm)) hb)
                   have n8_ := Aside0.mk (Kd.V_below (Kd.V_elderB (by (with_reducible repeat (first | apply Kd.V_alloc | apply Kd.V_drewN | apply Kd.V_drew)); exact HO325.out) gb327 (Nat.le_of_eq hg.symm)) hb)
                   have n9_ := Aside0.mk (below_step (by repeat (first | (with_reducible first | exact HB.out | apply below_alloc | apply pw_below_drewN | apply below_drew1) | exact HB.out)) hb)
                   have n10_ := Aside0.mk (hbox)
                   have n11_ := Aside0.mk ((by rw [hg]; exact (below_size (by repeat (first | (with_reducible first | exact HB.out | apply below_alloc | apply pw_below_drewN | apply below_drew1) | exact HB.out))) : w.heap.size ≤ gb327))
                   have n12_ := Aside0.mk ((by rw [hg]; exact (below_size (by repeat (first | (with_reducible first | exact HB.out | apply below_alloc | apply pw_below_drewN | apply below_drew1) | exact HB.out))) : w.heap.size ≤ gb327))
                   clear HO_0
                   clear HO_3
                   clear HO288
                   clear HO293
                   clear HO299
                   clear HO305
                   clear HO313
                   clear HO319
                   clear HO325
                   clear HB
                   have HO_0 := n0_
                   have HO_3 := n1_
                   have HO288 := n2_
                   have HO293 := n3_
                   have HO299 := n4_
                   have HO305 := n5_
                   have HO313 := n6_
                   have HO319 := n7_
                   have HO325 := n8_
                   have HB := n9_
                   have BK327 := n10_
                   have GW327 := n11_
                   have GE327 := n12_
                   clear n0_ n1_ n2_ n3_ n4_ n5_ n6_ n7_ n8_ n9_ n10_ n11_ n12_
                   clear hb hbox hg
                   refine hK.out _ _ ⟨HS0_, HS1_⟩ (fun hHeld => ?_)
                   clear hK K
                   refine norm_ (a' := ?_) ?_ ?_
                   rotate_left
                   ·show Act.put _ (some 5) _ = _
                    simp only [Act.put, List.setIfInBounds_toArray, List.set_cons_zero, List.set_cons_succ, i64_w, i32_w]
                    rfl
                   exact norm_ (by first | (simp only [putAll, Act.put, List.setIfInBounds_toArray, List.set_cons_zero, List.set_cons_succ]; done) | (simp only [putAll, Act.put, List.setIfInBounds_toArray, List.set_cons_zero, List.set_cons_succ]; rfl)) (hJ2_5_8_21_29 (gb327) _ ⟨hHeld, (by (with_reducible repeat (first | apply Kd.V_alloc | apply Kd.V_drewN | apply Kd.V_drew)); exact Kd.V_mono HO288.out (fun _ hk => ⟨hk.1.1, ⟨hk.1.2, hk.2⟩⟩)), (by (with_reducible repeat (first | apply Kd.V_alloc | apply Kd.V_drewN | apply Kd.V_drew)); exact Kd.V_mono HO293.out (fun _ hk => ⟨hk.1.1, ⟨hk.1.2, hk.2⟩⟩)), (by (with_reducible repeat (first | apply Kd.V_alloc | apply Kd.V_drewN | apply Kd.V_drew)); exact Kd.V_mono HO299.out (fun _ hk => ⟨hk.1.1, ⟨hk.1.2, hk.2⟩⟩)), (by (with_reducible repeat (first | apply Kd.V_alloc | apply Kd.V_drewN | apply Kd.V_drew)); exact Kd.V_mono HO305.out (fun _ hk => ⟨hk.1.1, ⟨hk.1.2, hk.2⟩⟩)), (by (with_reducible repeat (first | apply Kd.V_alloc | apply Kd.V_drewN | apply Kd.V_drew)); exact Kd.V_mono HO313.out (fun _ hk => ⟨hk.1.1, ⟨hk.1.2, hk.2⟩⟩)), (by (with_reducible repeat (first | apply Kd.V_alloc | apply Kd.V_drewN | apply Kd.V_drew)); exact Kd.V_mono HO319.out (fun _ hk => ⟨hk.1.1, ⟨hk.1.2, hk.2⟩⟩)), (by (with_reducible repeat (first | apply Kd.V_alloc | apply Kd.V_drewN | apply Kd.V_drew)); exact Kd.V_mono HO325.out (fun _ hk => ⟨hk.1.1, ⟨hk.1.2, hk.2⟩⟩)), (by (with_reducible repeat (first | apply Kd.V_alloc | apply Kd.V_drewN | apply Kd.V_drew)); exact Kd.V_mono HO_0.out (fun _ hk => ⟨hk.1.1, ⟨hk.1.2, hk.2⟩⟩)), (by (with_reducible repeat (first | apply Kd.R_alloc | apply Kd.R_drewN | apply Kd.R_drew)); exact HO_3.out), (by (with_reducible repeat (first | refine blk_drewN ?_ _ | refine blk_drew ?_ | refine blk_alloc ?_ _)); exact BK327.out), GW327.out, GE327.out, (by repeat (first | (with_reducible first | exact HB.out | apply below_alloc | apply pw_below_drewN | apply below_drew1 | refine below_set ?_ GE327.out) | exact HB.out))⟩)
                ·skip
                 rintro gb327 w36 ⟨hS_, h0_, h1_, h2_, h3_, h4_, h5_, h6_, h7_, h8_, h9_, h10_, h11_, h12_⟩
                 have n0_ : Aside0 (Kd.V (Kd.int .u8) 5 w36 w.heap.size (fun k_ => (P0_ k_ ∨ w.heap.size ≤ k_) ∧ some k_ ≠ (u3 : Value).ownBlock ∧ k_ ≠ gb327) (.slice (some ad307) y284.length co26) y284) := ⟨h0_⟩
                 have n1_ : Aside0 (Kd.V (Kd.int .u8) 5 w36 w.heap.size (fun k_ => (P0_ k_ ∨ w.heap.size ≤ k_) ∧ some k_ ≠ (u3 : Value).ownBlock ∧ k_ ≠ gb327) (.slice (some ad307) y289.length co26) y289) := ⟨h1_⟩
                 have n2_ : Aside0 (Kd.V (Kd.int .u8) 5 w36 w.heap.size (fun k_ => (P0_ k_ ∨ w.heap.size ≤ k_) ∧ some k_ ≠ (u3 : Value).ownBlock ∧ k_ ≠ gb327) (.slice A30 y295.length c30) y295) := ⟨h2_⟩
                 have n3_ : Aside0 (Kd.V (Kd.int .u8) 5 w36 w.heap.size (fun k_ => (P0_ k_ ∨ w.heap.size ≤ k_) ∧ some k_ ≠ (u3 : Value).ownBlock ∧ k_ ≠ gb327) (.slice A31 y301.length c31) y301) := ⟨h3_⟩
                 have n4_ : Aside0 (Kd.V (Kd.int .u8) 5 w36 w.heap.size (fun k_ => (P0_ k_ ∨ w.heap.size ≤ k_) ∧ some k_ ≠ (u3 : Value).ownBlock ∧ k_ ≠ gb327) (.slice A32 y309.length c32) y309) := ⟨h4_⟩
                 have n5_ : Aside0 (Kd.V (Kd.int .u8) 5 w36 w.heap.size (fun k_ => (P0_ k_ ∨ w.heap.size ≤ k_) ∧ some k_ ≠ (u3 : Value).ownBlock ∧ k_ ≠ gb327) (.slice A33 y315.length c33) y315) := ⟨h5_⟩
                 have n6_ : Aside0 (Kd.V (Kd.int .u8) 5 w36 w.heap.size (fun k_ => (P0_ k_ ∨ w.heap.size ≤ k_) ∧ some k_ ≠ (u3 : Value).ownBlock ∧ k_ ≠ gb327) (.slice A34 y321.length c34) y321) := ⟨h6_⟩
                 have n7_ : Aside0 (Kd.V (Kd.int .u8) 5 w36 w.heap.size (fun k_ => (P0_ k_ ∨ w.heap.size ≤ k_) ∧ some k_ ≠ (u3 : Value).ownBlock ∧ k_ ≠ gb327) (.slice (some ad307) x0_1.length co26) x0_1) := ⟨h7_⟩
                 have n8_ : Aside0 (Kd.R k48 48 w36 w.heap.size (fun k_ => (w.heap.size ≤ k_) ∧ k_ ≠ gb327) u3 x3_1) := ⟨h8_⟩
                 have n9_ : Aside0 (w36.heap[gb327]? = some (.cells #[.int .i64 0, .int .i64 0, .int .i64 0, .bool false, .int .i64 0, .bool false, .int .i64 0, .int .i64 0] 48 (0, 0))) := ⟨h9_⟩
                 have n10_ : Aside0 (w.heap.size ≤ gb327) := ⟨h10_⟩
                 have n11_ : Aside0 (w.heap.size ≤ gb327) := ⟨h11_⟩
                 have n12_ : Aside0 (Below w.heap.size w w36) := ⟨h12_⟩
                 clear HO_0
                 clear HO_3
                 clear HO288
                 clear HB
                 clear h0_ h1_ h2_ h3_ h4_ h5_ h6_ h7_ h8_ h9_ h10_ h11_ h12_
                 have HO288 := n0_
                 have HO293 := n1_
                 have HO299 := n2_
                 have HO305 := n3_
                 have HO313 := n4_
                 have HO319 := n5_
                 have HO325 := n6_
                 have HO_0 := n7_
                 have HO_3 := n8_
                 have BK327 := n9_
                 have GW327 := n10_
                 have GE327 := n11_
                 have HB := n12_
                 clear n0_ n1_ n2_ n3_ n4_ n5_ n6_ n7_ n8_ n9_ n10_ n11_ n12_
                 have hHeld : w36.cell? ⟨ad307.block, ad307.off + 4, none⟩ = some (.int .u8 (rd y284 4)) ∧ w36.cell? ⟨ad307.block, ad307.off + 4, none⟩ = some (.int .u8 (rd y284 4)) := hS_
                 refine norm_ (a' := ?_) ?_ ?_
                 rotate_left
                 ·simp only [putAll, Act.put, List.setIfInBounds_toArray, List.set_cons_zero, List.set_cons_succ]
                  rfl
                 refine one_ (i := 24) (N := some 38) #[true, true, true, true, true, true, true, true, true, true, true, true, true, true, true, true, true, true, true, true, true, true, true, true, true, true, true, false, false, true, false] rfl rfl (one_of HT_.out (by kernel_rfl)) (by decide) (fun K hK => ?_)
                 refine goes_ Try.func81 (by kernel_rfl) rfl #[.slice A33 y315.length c33] (by rfl) rfl rfl (by (try simp only [List.map_toArray, List.map_cons, List.map_nil]); first | done | rfl | (simp only [List.length_drop, List.length_take]; rfl)) ?_
                 with_reducible refine (impl_take.calls k1 _ _ y315 t320 _ ?side1 ?side2 A16.out).mono ?_
                 (case side1 => repeat (first | exact (Kd.V_reads' HO319.out).2.2 | (with_reducible refine Kd.C_alloc ?_ _) | (with_reducible refine Kd.C_drewN ?_ _) | (with_reducible refine Kd.C_drew ?_)))
                 (case side2 => exact (Kd.V_reads' HO319.out).2.1)
                 rintro e w' ⟨rfl, ⟨nd, rfl⟩⟩
                 refine ⟨_, rfl, ?_⟩
                 refine hK.out _ _ ⟨hHeld.1, hHeld.2⟩ (fun hHeld => ?_)
                 clear hK K
                 refine norm_ (a' := ?_) ?_ ?_
                 rotate_left
                 ·show Act.put _ (some 38) _ = _
                  simp only [Act.put, List.setIfInBounds_toArray, List.set_cons_zero, List.set_cons_succ, i64_w, i32_w]
                  rfl
                 exact norm_ (by first | (simp only [putAll, Act.put, List.setIfInBounds_toArray, List.set_cons_zero, List.set_cons_succ]; done) | (simp only [putAll, Act.put, List.setIfInBounds_toArray, List.set_cons_zero, List.set_cons_succ]; rfl)) (hJ2_5_8_21_24_29 (gb327) _ ⟨hHeld, (by (with_reducible repeat (first | apply Kd.V_alloc | apply Kd.V_drewN | apply Kd.V_drew)); exact HO288.out), (by (with_reducible repeat (first | apply Kd.V_alloc | apply Kd.V_drewN | apply Kd.V_drew)); exact HO293.out), (by (with_reducible repeat (first | apply Kd.V_alloc | apply Kd.V_drewN | apply Kd.V_drew)); exact HO299.out), (by (with_reducible repeat (first | apply Kd.V_alloc | apply Kd.V_drewN | apply Kd.V_drew)); exact HO305.out), (by (with_reducible repeat (first | apply Kd.V_alloc | apply Kd.V_drewN | apply Kd.V_drew)); exact HO313.out), (by (with_reducible repeat (first | apply Kd.V_alloc | apply Kd.V_drewN | apply Kd.V_drew)); exact HO319.out), (by (with_reducible repeat (first | apply Kd.V_alloc | apply Kd.V_drewN | apply Kd.V_drew)); exact HO325.out), (by (with_reducible repeat (first | apply Kd.V_alloc | apply Kd.V_drewN | apply Kd.V_drew)); exact HO_0.out), (by (with_reducible repeat (first | apply Kd.R_alloc | apply Kd.R_drewN | apply Kd.R_drew)); exact HO_3.out), (by (with_reducible repeat (first | refine blk_drewN ?_ _ | refine blk_drew ?_ | refine blk_alloc ?_ _)); exact BK327.out), GW327.out, GE327.out, (by repeat (first | (with_reducible first | exact HB.out | apply below_alloc | apply pw_below_drewN | apply below_drew1 | refine below_set ?_ GE327.out) | exact HB.out))⟩)
               ·skip
                rintro _ w35 ⟨hS_, h0_, h1_, h2_, h3_, h4_, h5_, h6_, h7_, h8_, h9_⟩
                have n0_ : Aside0 (Kd.V (Kd.int .u8) 5 w35 w.heap.size (fun k_ => (P0_ k_ ∨ w.heap.size ≤ k_) ∧ some k_ ≠ (u3 : Value).ownBlock) (.slice (some ad307) y284.length co26) y284) := ⟨h0_⟩
                have n1_ : Aside0 (Kd.V (Kd.int .u8) 5 w35 w.heap.size (fun k_ => (P0_ k_ ∨ w.heap.size ≤ k_) ∧ some k_ ≠ (u3 : Value).ownBlock) (.slice (some ad307) y289.length co26) y289) := ⟨h1_⟩
                have n2_ : Aside0 (Kd.V (Kd.int .u8) 5 w35 w.heap.size (fun k_ => (P0_ k_ ∨ w.heap.size ≤ k_) ∧ some k_ ≠ (u3 : Value).ownBlock) (.slice A30 y295.length c30) y295) := ⟨h2_⟩
                have n3_ : Aside0 (Kd.V (Kd.int .u8) 5 w35 w.heap.size (fun k_ => (P0_ k_ ∨ w.heap.size ≤ k_) ∧ some k_ ≠ (u3 : Value).ownBlock) (.slice A31 y301.length c31) y301) := ⟨h3_⟩
                have n4_ : Aside0 (Kd.V (Kd.int .u8) 5 w35 w.heap.size (fun k_ => (P0_ k_ ∨ w.heap.size ≤ k_) ∧ some k_ ≠ (u3 : Value).ownBlock) (.slice A32 y309.length c32) y309) := ⟨h4_⟩
                have n5_ : Aside0 (Kd.V (Kd.int .u8) 5 w35 w.heap.size (fun k_ => (P0_ k_ ∨ w.heap.size ≤ k_) ∧ some k_ ≠ (u3 : Value).ownBlock) (.slice A33 y315.length c33) y315) := ⟨h5_⟩
                have n6_ : Aside0 (Kd.V (Kd.int .u8) 5 w35 w.heap.size (fun k_ => (P0_ k_ ∨ w.heap.size ≤ k_) ∧ some k_ ≠ (u3 : Value).ownBlock) (.slice A34 y321.length c34) y321) := ⟨h6_⟩
                have n7_ : Aside0 (Kd.V (Kd.int .u8) 5 w35 w.heap.size (fun k_ => (P0_ k_ ∨ w.heap.size ≤ k_) ∧ some k_ ≠ (u3 : Value).ownBlock) (.slice (some ad307) x0_1.length co26) x0_1) := ⟨h7_⟩
                have n8_ : Aside0 (Kd.R k48 48 w35 w.heap.size (fun k_ => (w.heap.size ≤ k_)) u3 x3_1) := ⟨h8_⟩
                have n9_ : Aside0 (Below w.heap.size w w35) := ⟨h9_⟩
                clear HO_0
                clear HO_3
                clear HO288
                clear HB
                clear h0_ h1_ h2_ h3_ h4_ h5_ h6_ h7_ h8_ h9_
                have HO288 := n0_
                have HO293 := n1_
                have HO299 := n2_
                have HO305 := n3_
                have HO313 := n4_
                have HO319 := n5_
                have HO325 := n6_
                have HO_0 := n7_
                have HO_3 := n8_
                have HB := n9_
                clear n0_ n1_ n2_ n3_ n4_ n5_ n6_ n7_ n8_ n9_
                have hHeld : w35.cell? ⟨ad307.block, ad307.off + 4, none⟩ = some (.int .u8 (rd y284 4)) ∧ w35.cell? ⟨ad307.block, ad307.off + 4, none⟩ = some (.int .u8 (rd y284 4)) := hS_
                refine norm_ (a' := ?_) ?_ ?_
                rotate_left
                ·simp only [putAll, Act.put, List.setIfInBounds_toArray, List.set_cons_zero, List.set_cons_succ]
                 rfl
                refine two_ (i := 27) (j := 29) (Ni := some 41) (Nj := some 5) #[true, true, true, true, true, true, true, true, true, true, true, true, true, true, true, true, true, true, true, true, true, true, true, true, true, true, true, true, false, false, false] #[true, true, true, true, true, true, true, true, true, true, true, true, true, true, true, true, true, true, true, true, true, true, true, true, true, true, true, false, false, true, false] rfl rfl rfl rfl (two_of HT_.out (by kernel_rfl)) (by decide) (by decide) (fun K hK => ?_) (fun K hK => ?_)
                ·skip
                 refine goes_ Try.func81 (by kernel_rfl) rfl #[.slice A34 y321.length c34] (by rfl) rfl rfl (by (try simp only [List.map_toArray, List.map_cons, List.map_nil]); first | done | rfl | (simp only [List.length_drop, List.length_take]; rfl)) ?_
                 with_reducible refine (impl_take.calls k1 _ _ y321 t326 _ ?side1 ?side2 A18.out).mono ?_
                 (case side1 => repeat (first | exact (Kd.V_reads' HO325.out).2.2 | (with_reducible refine Kd.C_alloc ?_ _) | (with_reducible refine Kd.C_drewN ?_ _) | (with_reducible refine Kd.C_drew ?_)))
                 (case side2 => exact (Kd.V_reads' HO325.out).2.1)
                 rintro e w' ⟨rfl, ⟨nd, rfl⟩⟩
                 refine ⟨_, rfl, ?_⟩
                 refine hK.out _ _ ⟨hHeld.1, hHeld.2⟩ (fun hHeld => ?_)
                 clear hK K
                 refine norm_ (a' := ?_) ?_ ?_
                 rotate_left
                 ·show Act.put _ (some 41) _ = _
                  simp only [Act.put, List.setIfInBounds_toArray, List.set_cons_zero, List.set_cons_succ, i64_w, i32_w]
                  rfl
                 refine pure_ (i := 28) (N := some 42) (v := ?_) (a' := ?_) #[true, true, true, true, true, true, true, true, true, true, true, true, true, true, true, true, true, true, true, true, true, true, true, true, true, true, true, true, true, false, false] rfl rfl (any_of HT_.out (by kernel_rfl)) (fun _ _ _ h => h) (Or.inl ⟨by rfl, ?_⟩) ?_ ?_
                 rotate_left
                 ·intro w'
                  go_simp
                  with_reducible rfl
                 rotate_left
                 ·simp only [Act.put, List.setIfInBounds_toArray, List.set_cons_zero, List.set_cons_succ, i64_w, i32_w]
                  rfl
                 exact norm_ (by first | (simp only [putAll, Act.put, List.setIfInBounds_toArray, List.set_cons_zero, List.set_cons_succ]; done) | (simp only [putAll, Act.put, List.setIfInBounds_toArray, List.set_cons_zero, List.set_cons_succ]; rfl)) (hJ2_5_8_21_24_27 () _ ⟨hHeld, (by (with_reducible repeat (first | apply Kd.V_alloc | apply Kd.V_drewN | apply Kd.V_drew)); exact HO288.out), (by (with_reducible repeat (first | apply Kd.V_alloc | apply Kd.V_drewN | apply Kd.V_drew)); exact HO293.out), (by (with_reducible repeat (first | apply Kd.V_alloc | apply Kd.V_drewN | apply Kd.V_drew)); exact HO299.out), (by (with_reducible repeat (first | apply Kd.V_alloc | apply Kd.V_drewN | apply Kd.V_drew)); exact HO305.out), (by (with_reducible repeat (first | apply Kd.V_alloc | apply Kd.V_drewN | apply Kd.V_drew)); exact HO313.out), (by (with_reducible repeat (first | apply Kd.V_alloc | apply Kd.V_drewN | apply Kd.V_drew)); exact HO319.out), (by (with_reducible repeat (first | apply Kd.V_alloc | apply Kd.V_drewN | apply Kd.V_drew)); exact HO325.out), (by (with_reducible repeat (first | apply Kd.V_alloc | apply Kd.V_drewN | apply Kd.V_drew)); exact HO_0.out), (by (with_reducible repeat (first | apply Kd.R_alloc | apply Kd.R_drewN | apply Kd.R_drew)); exact HO_3.out), (by repeat (first | (with_reducible first | exact HB.out | apply below_alloc | apply pw_below_drewN | apply below_drew1) | exact HB.out))⟩)
                ·skip
                 refine box_step ?hg (N := 5) ?hd (cs := #[.int .i64 0, .int .i64 0, .int .i64 0, .bool false, .int .i64 0, .bool false, .int .i64 0, .int .i64 0]) (t := 48) ?hr ?_; (case hd => rfl); (case hg => rfl); (case hr => first | (go_simp; done) | (go_simp; rfl))
                 intro gb327 hg w36 hbox hb
                 have HS0_ := (hb.cell (World.block_lt_of_cell? _ _ (hHeld.1))).trans (hHeld.1)
                 have HS1_ := (hb.cell (World.block_lt_of_cell? _ _ (hHeld.2))).trans (hHeld.2)
                 have n0_ := Aside0.mk (Kd.V_below (Kd.V_elderB (by (with_reducible repeat (first | apply Kd.V_alloc | apply Kd.V_drewN | apply Kd.V_drew)); exact HO_0.out) gb327 (Nat.le_of_eq hg.symm)) hb)
                 have n1_ := Aside0.mk (Kd.R_below (Kd.R_elderB (by (with_reducible repeat (first | apply Kd.R_alloc | apply Kd.R_drewN | apply Kd.R_drew)); exact HO_3.out) gb327 (Nat.le_of_eq hg.symm)) hb)
                 have n2_ := Aside0.mk (Kd.V_below (Kd.V_elderB (by (with_reducible repeat (first | apply Kd.V_alloc | apply Kd.V_drewN | apply Kd.V_drew)); exact HO288.out) gb327 (Nat.le_of_eq hg.symm)) hb)
                 have n3_ := Aside0.mk (Kd.V_below (Kd.V_elderB (by (with_reducible repeat (first | apply Kd.V_alloc | apply Kd.V_drewN | apply Kd.V_drew)); exact HO293.out) gb327 (Nat.le_of_eq hg.symm)) hb)
                 have n4_ := Aside0.mk (Kd.V_below (Kd.V_elderB (by (with_reducible repeat (first | apply Kd.V_alloc | apply Kd.V_drewN | apply Kd.V_drew)); exact HO299.out) gb327 (Nat.le_of_eq hg.symm)) hb)
                 have n5_ := Aside0.mk (Kd.V_below (Kd.V_elderB (by (with_reducible repeat (first | apply Kd.V_alloc | apply Kd.V_drewN | apply Kd.V_drew)); exact HO305.out) gb327 (Nat.le_of_eq hg.symm)) hb)
                 have n6_ := Aside0.mk (Kd.V_below (Kd.V_elderB (by (with_reducible repeat (first | apply Kd.V_alloc | apply Kd.V_drewN | apply Kd.V_drew)); exact HO313.out) gb327 (Nat.le_of_eq hg.symm)) hb)
                 have n7_ := Aside0.mk (Kd.V_below (Kd.V_elderB (by (with_reducible repeat (first | apply Kd.V_alloc | apply Kd.V_drewN | apply Kd.V_drew)); exact HO319.out) gb327 (Nat.le_of_eq hg.symm)) hb)
                 have n8_ := Aside0.mk (Kd.V_below (Kd.V_elderB (by (with_reducible repeat (first | apply Kd.V_alloc | apply Kd.V_drewN | apply Kd.V_drew)); exact HO325.out) gb327 (Nat.le_of_eq hg.symm)) hb)
                 have n9_ := Aside0.mk (below_step (by repeat (first | (with_reducible first | exact HB.out | apply below_alloc | apply pw_below_drewN | apply below_drew1) | exact HB.out)) hb)
                 have n10_ := Aside0.mk (hbox)
                 have n11_ := Aside0.mk ((by rw [hg]; exact (below_size (by repeat (first | (with_reducible first | exact HB.out | apply below_alloc | apply pw_below_drewN | apply below_drew1) | exact HB.out))) : w.heap.size ≤ gb327))
                 have n12_ := Aside0.mk ((by rw [hg]; exact (below_size (by repeat (first | (with_reducible first | exact HB.out | apply below_alloc | apply pw_below_drewN | apply below_drew1) | exact HB.out))) : w.heap.size ≤ gb327))
                 clear HO_0
                 clear HO_3
                 clear HO288
                 clear HO293
                 clear HO299
                 clear HO305
                 clear HO313
                 clear HO319
                 clear HO325
                 clear HB
                 have HO_0 := n0_
                 have HO_3 := n1_
                 have HO288 := n2_
                 have HO293 := n3_
                 have HO299 := n4_
                 have HO305 := n5_
                 have HO313 := n6_
                 have HO319 := n7_
                 have HO325 := n8_
                 have HB := n9_
                 have BK327 := n10_
                 have GW327 := n11_
                 have GE327 := n12_
                 clear n0_ n1_ n2_ n3_ n4_ n5_ n6_ n7_ n8_ n9_ n10_ n11_ n12_
                 clear hb hbox hg
                 refine hK.out _ _ ⟨HS0_, HS1_⟩ (fun hHeld => ?_)
                 clear hK K
                 refine norm_ (a' := ?_) ?_ ?_
                 rotate_left
                 ·show Act.put _ (some 5) _ = _
                  simp only [Act.put, List.setIfInBounds_toArray, List.set_cons_zero, List.set_cons_succ, i64_w, i32_w]
                  rfl
                 exact norm_ (by first | (simp only [putAll, Act.put, List.setIfInBounds_toArray, List.set_cons_zero, List.set_cons_succ]; done) | (simp only [putAll, Act.put, List.setIfInBounds_toArray, List.set_cons_zero, List.set_cons_succ]; rfl)) (hJ2_5_8_21_24_29 (gb327) _ ⟨hHeld, (by (with_reducible repeat (first | apply Kd.V_alloc | apply Kd.V_drewN | apply Kd.V_drew)); exact Kd.V_mono HO288.out (fun _ hk => ⟨hk.1.1, ⟨hk.1.2, hk.2⟩⟩)), (by (with_reducible repeat (first | apply Kd.V_alloc | apply Kd.V_drewN | apply Kd.V_drew)); exact Kd.V_mono HO293.out (fun _ hk => ⟨hk.1.1, ⟨hk.1.2, hk.2⟩⟩)), (by (with_reducible repeat (first | apply Kd.V_alloc | apply Kd.V_drewN | apply Kd.V_drew)); exact Kd.V_mono HO299.out (fun _ hk => ⟨hk.1.1, ⟨hk.1.2, hk.2⟩⟩)), (by (with_reducible repeat (first | apply Kd.V_alloc | apply Kd.V_drewN | apply Kd.V_drew)); exact Kd.V_mono HO305.out (fun _ hk => ⟨hk.1.1, ⟨hk.1.2, hk.2⟩⟩)), (by (with_reducible repeat (first | apply Kd.V_alloc | apply Kd.V_drewN | apply Kd.V_drew)); exact Kd.V_mono HO313.out (fun _ hk => ⟨hk.1.1, ⟨hk.1.2, hk.2⟩⟩)), (by (with_reducible repeat (first | apply Kd.V_alloc | apply Kd.V_drewN | apply Kd.V_drew)); exact Kd.V_mono HO319.out (fun _ hk => ⟨hk.1.1, ⟨hk.1.2, hk.2⟩⟩)), (by (with_reducible repeat (first | apply Kd.V_alloc | apply Kd.V_drewN | apply Kd.V_drew)); exact Kd.V_mono HO325.out (fun _ hk => ⟨hk.1.1, ⟨hk.1.2, hk.2⟩⟩)), (by (with_reducible repeat (first | apply Kd.V_alloc | apply Kd.V_drewN | apply Kd.V_drew)); exact Kd.V_mono HO_0.out (fun _ hk => ⟨hk.1.1, ⟨hk.1.2, hk.2⟩⟩)), (by (with_reducible repeat (first | apply Kd.R_alloc | apply Kd.R_drewN | apply Kd.R_drew)); exact HO_3.out), (by (with_reducible repeat (first | refine blk_drewN ?_ _ | refine blk_drew ?_ | refine blk_alloc ?_ _)); exact BK327.out), GW327.out, GE327.out, (by repeat (first | (with_reducible first | exact HB.out | apply below_alloc | apply pw_below_drewN | apply below_drew1 | refine below_set ?_ GE327.out) | exact HB.out))⟩)
              ·skip
               rintro gb327 w36 ⟨hS_, h0_, h1_, h2_, h3_, h4_, h5_, h6_, h7_, h8_, h9_, h10_, h11_, h12_⟩
               have n0_ : Aside0 (Kd.V (Kd.int .u8) 5 w36 w.heap.size (fun k_ => (P0_ k_ ∨ w.heap.size ≤ k_) ∧ some k_ ≠ (u3 : Value).ownBlock ∧ k_ ≠ gb327) (.slice (some ad307) y284.length co26) y284) := ⟨h0_⟩
               have n1_ : Aside0 (Kd.V (Kd.int .u8) 5 w36 w.heap.size (fun k_ => (P0_ k_ ∨ w.heap.size ≤ k_) ∧ some k_ ≠ (u3 : Value).ownBlock ∧ k_ ≠ gb327) (.slice (some ad307) y289.length co26) y289) := ⟨h1_⟩
               have n2_ : Aside0 (Kd.V (Kd.int .u8) 5 w36 w.heap.size (fun k_ => (P0_ k_ ∨ w.heap.size ≤ k_) ∧ some k_ ≠ (u3 : Value).ownBlock ∧ k_ ≠ gb327) (.slice A30 y295.length c30) y295) := ⟨h2_⟩
               have n3_ : Aside0 (Kd.V (Kd.int .u8) 5 w36 w.heap.size (fun k_ => (P0_ k_ ∨ w.heap.size ≤ k_) ∧ some k_ ≠ (u3 : Value).ownBlock ∧ k_ ≠ gb327) (.slice A31 y301.length c31) y301) := ⟨h3_⟩
               have n4_ : Aside0 (Kd.V (Kd.int .u8) 5 w36 w.heap.size (fun k_ => (P0_ k_ ∨ w.heap.size ≤ k_) ∧ some k_ ≠ (u3 : Value).ownBlock ∧ k_ ≠ gb327) (.slice A32 y309.length c32) y309) := ⟨h4_⟩
               have n5_ : Aside0 (Kd.V (Kd.int .u8) 5 w36 w.heap.size (fun k_ => (P0_ k_ ∨ w.heap.size ≤ k_) ∧ some k_ ≠ (u3 : Value).ownBlock ∧ k_ ≠ gb327) (.slice A33 y315.length c33) y315) := ⟨h5_⟩
               have n6_ : Aside0 (Kd.V (Kd.int .u8) 5 w36 w.heap.size (fun k_ => (P0_ k_ ∨ w.heap.size ≤ k_) ∧ some k_ ≠ (u3 : Value).ownBlock ∧ k_ ≠ gb327) (.slice A34 y321.length c34) y321) := ⟨h6_⟩
               have n7_ : Aside0 (Kd.V (Kd.int .u8) 5 w36 w.heap.size (fun k_ => (P0_ k_ ∨ w.heap.size ≤ k_) ∧ some k_ ≠ (u3 : Value).ownBlock ∧ k_ ≠ gb327) (.slice (some ad307) x0_1.length co26) x0_1) := ⟨h7_⟩
               have n8_ : Aside0 (Kd.R k48 48 w36 w.heap.size (fun k_ => (w.heap.size ≤ k_) ∧ k_ ≠ gb327) u3 x3_1) := ⟨h8_⟩
               have n9_ : Aside0 (w36.heap[gb327]? = some (.cells #[.int .i64 0, .int .i64 0, .int .i64 0, .bool false, .int .i64 0, .bool false, .int .i64 0, .int .i64 0] 48 (0, 0))) := ⟨h9_⟩
               have n10_ : Aside0 (w.heap.size ≤ gb327) := ⟨h10_⟩
               have n11_ : Aside0 (w.heap.size ≤ gb327) := ⟨h11_⟩
               have n12_ : Aside0 (Below w.heap.size w w36) := ⟨h12_⟩
               clear HO_0
               clear HO_3
               clear HO288
               clear HB
               clear h0_ h1_ h2_ h3_ h4_ h5_ h6_ h7_ h8_ h9_ h10_ h11_ h12_
               have HO288 := n0_
               have HO293 := n1_
               have HO299 := n2_
               have HO305 := n3_
               have HO313 := n4_
               have HO319 := n5_
               have HO325 := n6_
               have HO_0 := n7_
               have HO_3 := n8_
               have BK327 := n9_
               have GW327 := n10_
               have GE327 := n11_
               have HB := n12_
               clear n0_ n1_ n2_ n3_ n4_ n5_ n6_ n7_ n8_ n9_ n10_ n11_ n12_
               have hHeld : w36.cell? ⟨ad307.block, ad307.off + 4, none⟩ = some (.int .u8 (rd y284 4)) ∧ w36.cell? ⟨ad307.block, ad307.off + 4, none⟩ = some (.int .u8 (rd y284 4)) := hS_
               refine norm_ (a' := ?_) ?_ ?_
               rotate_left
               ·simp only [putAll, Act.put, List.setIfInBounds_toArray, List.set_cons_zero, List.set_cons_succ]
                rfl
               refine one_ (i := 27) (N := some 41) #[true, true, true, true, true, true, true, true, true, true, true, true, true, true, true, true, true, true, true, true, true, true, true, true, true, true, true, true, false, true, false] rfl rfl (one_of HT_.out (by kernel_rfl)) (by decide) (fun K hK => ?_)
               refine goes_ Try.func81 (by kernel_rfl) rfl #[.slice A34 y321.length c34] (by rfl) rfl rfl (by (try simp only [List.map_toArray, List.map_cons, List.map_nil]); first | done | rfl | (simp only [List.length_drop, List.length_take]; rfl)) ?_
               with_reducible refine (impl_take.calls k1 _ _ y321 t326 _ ?side1 ?side2 A18.out).mono ?_
               (case side1 => repeat (first | exact (Kd.V_reads' HO325.out).2.2 | (with_reducible refine Kd.C_alloc ?_ _) | (with_reducible refine Kd.C_drewN ?_ _) | (with_reducible refine Kd.C_drew ?_)))
               (case side2 => exact (Kd.V_reads' HO325.out).2.1)
               rintro e w' ⟨rfl, ⟨nd, rfl⟩⟩
               refine ⟨_, rfl, ?_⟩
               refine hK.out _ _ ⟨hHeld.1, hHeld.2⟩ (fun hHeld => ?_)
               clear hK K
               refine norm_ (a' := ?_) ?_ ?_
               rotate_left
               ·show Act.put _ (some 41) _ = _
                simp only [Act.put, List.setIfInBounds_toArray, List.set_cons_zero, List.set_cons_succ, i64_w, i32_w]
                rfl
               refine pure_ (i := 28) (N := some 42) (v := ?_) (a' := ?_) #[true, true, true, true, true, true, true, true, true, true, true, true, true, true, true, true, true, true, true, true, true, true, true, true, true, true, true, true, true, true, false] rfl rfl (any_of HT_.out (by kernel_rfl)) (fun _ _ _ h => h) (Or.inl ⟨by rfl, ?_⟩) ?_ ?_
               rotate_left
               ·intro w'
                go_simp
                with_reducible rfl
               rotate_left
               ·simp only [Act.put, List.setIfInBounds_toArray, List.set_cons_zero, List.set_cons_succ, i64_w, i32_w]
                rfl
               exact norm_ (by first | (simp only [putAll, Act.put, List.setIfInBounds_toArray, List.set_cons_zero, List.set_cons_succ]; done) | (simp only [putAll, Act.put, List.setIfInBounds_toArray, List.set_cons_zero, List.set_cons_succ]; rfl)) (hJ2_5_8_21_24_27_29 (gb327) _ ⟨hHeld, (by (with_reducible repeat (first | apply Kd.V_alloc | apply Kd.V_drewN | apply Kd.V_drew)); exact HO288.out), (by (with_reducible repeat (first | apply Kd.V_alloc | apply Kd.V_drewN | apply Kd.V_drew)); exact HO293.out), (by (with_reducible repeat (first | apply Kd.V_alloc | apply Kd.V_drewN | apply Kd.V_drew)); exact HO299.out), (by (with_reducible repeat (first | apply Kd.V_alloc | apply Kd.V_drewN | apply Kd.V_drew)); exact HO305.out), (by (with_reducible repeat (first | apply Kd.V_alloc | apply Kd.V_drewN | apply Kd.V_drew)); exact HO313.out), (by (with_reducible repeat (first | apply Kd.V_alloc | apply Kd.V_drewN | apply Kd.V_drew)); exact HO319.out), (by (with_reducible repeat (first | apply Kd.V_alloc | apply Kd.V_drewN | apply Kd.V_drew)); exact HO325.out), (by (with_reducible repeat (first | apply Kd.V_alloc | apply Kd.V_drewN | apply Kd.V_drew)); exact HO_0.out), (by (with_reducible repeat (first | apply Kd.R_alloc | apply Kd.R_drewN | apply Kd.R_drew)); exact HO_3.out), (by (with_reducible repeat (first | refine blk_drewN ?_ _ | refine blk_drew ?_ | refine blk_alloc ?_ _)); exact BK327.out), GW327.out, GE327.out, (by repeat (first | (with_reducible first | exact HB.out | apply below_alloc | apply pw_below_drewN | apply below_drew1 | refine below_set ?_ GE327.out) | exact HB.out))⟩)
             ·skip
              rintro _ w35 ⟨hS_, h0_, h1_, h2_, h3_, h4_, h5_, h6_, h7_, h8_, h9_⟩
              have n0_ : Aside0 (Kd.V (Kd.int .u8) 5 w35 w.heap.size (fun k_ => (P0_ k_ ∨ w.heap.size ≤ k_) ∧ some k_ ≠ (u3 : Value).ownBlock) (.slice (some ad307) y284.length co26) y284) := ⟨h0_⟩
              have n1_ : Aside0 (Kd.V (Kd.int .u8) 5 w35 w.heap.size (fun k_ => (P0_ k_ ∨ w.heap.size ≤ k_) ∧ some k_ ≠ (u3 : Value).ownBlock) (.slice (some ad307) y289.length co26) y289) := ⟨h1_⟩
              have n2_ : Aside0 (Kd.V (Kd.int .u8) 5 w35 w.heap.size (fun k_ => (P0_ k_ ∨ w.heap.size ≤ k_) ∧ some k_ ≠ (u3 : Value).ownBlock) (.slice A30 y295.length c30) y295) := ⟨h2_⟩
              have n3_ : Aside0 (Kd.V (Kd.int .u8) 5 w35 w.heap.size (fun k_ => (P0_ k_ ∨ w.heap.size ≤ k_) ∧ some k_ ≠ (u3 : Value).ownBlock) (.slice A31 y301.length c31) y301) := ⟨h3_⟩
              have n4_ : Aside0 (Kd.V (Kd.int .u8) 5 w35 w.heap.size (fun k_ => (P0_ k_ ∨ w.heap.size ≤ k_) ∧ some k_ ≠ (u3 : Value).ownBlock) (.slice A32 y309.length c32) y309) := ⟨h4_⟩
              have n5_ : Aside0 (Kd.V (Kd.int .u8) 5 w35 w.heap.size (fun k_ => (P0_ k_ ∨ w.heap.size ≤ k_) ∧ some k_ ≠ (u3 : Value).ownBlock) (.slice A33 y315.length c33) y315) := ⟨h5_⟩
              have n6_ : Aside0 (Kd.V (Kd.int .u8) 5 w35 w.heap.size (fun k_ => (P0_ k_ ∨ w.heap.size ≤ k_) ∧ some k_ ≠ (u3 : Value).ownBlock) (.slice A34 y321.length c34) y321) := ⟨h6_⟩
              have n7_ : Aside0 (Kd.V (Kd.int .u8) 5 w35 w.heap.size (fun k_ => (P0_ k_ ∨ w.heap.size ≤ k_) ∧ some k_ ≠ (u3 : Value).ownBlock) (.slice (some ad307) x0_1.length co26) x0_1) := ⟨h7_⟩
              have n8_ : Aside0 (Kd.R k48 48 w35 w.heap.size (fun k_ => (w.heap.size ≤ k_)) u3 x3_1) := ⟨h8_⟩
              have n9_ : Aside0 (Below w.heap.size w w35) := ⟨h9_⟩
              clear HO_0
              clear HO_3
              clear HO288
              clear HB
              clear h0_ h1_ h2_ h3_ h4_ h5_ h6_ h7_ h8_ h9_
              have HO288 := n0_
              have HO293 := n1_
              have HO299 := n2_
              have HO305 := n3_
              have HO313 := n4_
              have HO319 := n5_
              have HO325 := n6_
              have HO_0 := n7_
              have HO_3 := n8_
              have HB := n9_
              clear n0_ n1_ n2_ n3_ n4_ n5_ n6_ n7_ n8_ n9_
              have hHeld : w35.cell? ⟨ad307.block, ad307.off + 4, none⟩ = some (.int .u8 (rd y284 4)) ∧ w35.cell? ⟨ad307.block, ad307.off + 4, none⟩ = some (.int .u8 (rd y284 4)) := hS_
              refine norm_ (a' := ?_) ?_ ?_
              rotate_left
              ·simp only [putAll, Act.put, List.setIfInBounds_toArray, List.set_cons_zero, List.set_cons_succ]
               rfl
              refine one_ (i := 29) (N := some 5) #[true, true, true, true, true, true, true, true, true, true, true, true, true, true, true, true, true, true, true, true, true, true, true, true, true, true, true, true, true, true, false] rfl rfl (one_of HT_.out (by kernel_rfl)) (by decide) (fun K hK => ?_)
              refine box_step ?hg (N := 5) ?hd (cs := #[.int .i64 0, .int .i64 0, .int .i64 0, .bool false, .int .i64 0, .bool false, .int .i64 0, .int .i64 0]) (t := 48) ?hr ?_; (case hd => rfl); (case hg => rfl); (case hr => first | (go_simp; done) | (go_simp; rfl))
              intro gb327 hg w36 hbox hb
              have HS0_ := (hb.cell (World.block_lt_of_cell? _ _ (hHeld.1))).trans (hHeld.1)
              have HS1_ := (hb.cell (World.block_lt_of_cell? _ _ (hHeld.2))).trans (hHeld.2)
              have n0_ := Aside0.mk (Kd.V_below (Kd.V_elderB (by (with_reducible repeat (first | apply Kd.V_alloc | apply Kd.V_drewN | apply Kd.V_drew)); exact HO_0.out) gb327 (Nat.le_of_eq hg.symm)) hb)
              have n1_ := Aside0.mk (Kd.R_below (Kd.R_elderB (by (with_reducible repeat (first | apply Kd.R_alloc | apply Kd.R_drewN | apply Kd.R_drew)); exact HO_3.out) gb327 (Nat.le_of_eq hg.symm)) hb)
              have n2_ := Aside0.mk (Kd.V_below (Kd.V_elderB (by (with_reducible repeat (first | apply Kd.V_alloc | apply Kd.V_drewN | apply Kd.V_drew)); exact HO288.out) gb327 (Nat.le_of_eq hg.symm)) hb)
              have n3_ := Aside0.mk (Kd.V_below (Kd.V_elderB (by (with_reducible repeat (first | apply Kd.V_alloc | apply Kd.V_drewN | apply Kd.V_drew)); exact HO293.out) gb327 (Nat.le_of_eq hg.symm)) hb)
              have n4_ := Aside0.mk (Kd.V_below (Kd.V_elderB (by (with_reducible repeat (first | apply Kd.V_alloc | apply Kd.V_drewN | apply Kd.V_drew)); exact HO299.out) gb327 (Nat.le_of_eq hg.symm)) hb)
              have n5_ := Aside0.mk (Kd.V_below (Kd.V_elderB (by (with_reducible repeat (first | apply Kd.V_alloc | apply Kd.V_drewN | apply Kd.V_drew)); exact HO305.out) gb327 (Nat.le_of_eq hg.symm)) hb)
              have n6_ := Aside0.mk (Kd.V_below (Kd.V_elderB (by (with_reducible repeat (first | apply Kd.V_alloc | apply Kd.V_drewN | apply Kd.V_drew)); exact HO313.out) gb327 (Nat.le_of_eq hg.symm)) hb)
              have n7_ := Aside0.mk (Kd.V_below (Kd.V_elderB (by (with_reducible repeat (first | apply Kd.V_alloc | apply Kd.V_drewN | apply Kd.V_drew)); exact HO319.out) gb327 (Nat.le_of_eq hg.symm)) hb)
              have n8_ := Aside0.mk (Kd.V_below (Kd.V_elderB (by (with_reducible repeat (first | apply Kd.V_alloc | apply Kd.V_drewN | apply Kd.V_drew)); exact HO325.out) gb327 (Nat.le_of_eq hg.symm)) hb)
              have n9_ := Aside0.mk (below_step (by repeat (first | (with_reducible first | exact HB.out | apply below_alloc | apply pw_below_drewN | apply below_drew1) | exact HB.out)) hb)
              have n10_ := Aside0.mk (hbox)
              have n11_ := Aside0.mk ((by rw [hg]; exact (below_size (by repeat (first | (with_reducible first | exact HB.out | apply below_alloc | apply pw_below_drewN | apply below_drew1) | exact HB.out))) : w.heap.size ≤ gb327))
              have n12_ := Aside0.mk ((by rw [hg]; exact (below_size (by repeat (first | (with_reducible first | exact HB.out | apply below_alloc | apply pw_below_drewN | apply below_drew1) | exact HB.out))) : w.heap.size ≤ gb327))
              clear HO_0
              clear HO_3
              clear HO288
              clear HO293
              clear HO299
              clear HO305
              clear HO313
              clear HO319
              clear HO325
              clear HB
              have HO_0 := n0_
              have HO_3 := n1_
              have HO288 := n2_
              have HO293 := n3_
              have HO299 := n4_
              have HO305 := n5_
              have HO313 := n6_
              have HO319 := n7_
              have HO325 := n8_
              have HB := n9_
              have BK327 := n10_
              have GW327 := n11_
              have GE327 := n12_
              clear n0_ n1_ n2_ n3_ n4_ n5_ n6_ n7_ n8_ n9_ n10_ n11_ n12_
              clear hb hbox hg
              refine hK.out _ _ ⟨HS0_, HS1_⟩ (fun hHeld => ?_)
              clear hK K
              refine norm_ (a' := ?_) ?_ ?_
              rotate_left
              ·show Act.put _ (some 5) _ = _
               simp only [Act.put, List.setIfInBounds_toArray, List.set_cons_zero, List.set_cons_succ, i64_w, i32_w]
               rfl
              exact norm_ (by first | (simp only [putAll, Act.put, List.setIfInBounds_toArray, List.set_cons_zero, List.set_cons_succ]; done) | (simp only [putAll, Act.put, List.setIfInBounds_toArray, List.set_cons_zero, List.set_cons_succ]; rfl)) (hJ2_5_8_21_24_27_29 (gb327) _ ⟨hHeld, (by (with_reducible repeat (first | apply Kd.V_alloc | apply Kd.V_drewN | apply Kd.V_drew)); exact Kd.V_mono HO288.out (fun _ hk => ⟨hk.1.1, ⟨hk.1.2, hk.2⟩⟩)), (by (with_reducible repeat (first | apply Kd.V_alloc | apply Kd.V_drewN | apply Kd.V_drew)); exact Kd.V_mono HO293.out (fun _ hk => ⟨hk.1.1, ⟨hk.1.2, hk.2⟩⟩)), (by (with_reducible repeat (first | apply Kd.V_alloc | apply Kd.V_drewN | apply Kd.V_drew)); exact Kd.V_mono HO299.out (fun _ hk => ⟨hk.1.1, ⟨hk.1.2, hk.2⟩⟩)), (by (with_reducible repeat (first | apply Kd.V_alloc | apply Kd.V_drewN | apply Kd.V_drew)); exact Kd.V_mono HO305.out (fun _ hk => ⟨hk.1.1, ⟨hk.1.2, hk.2⟩⟩)), (by (with_reducible repeat (first | apply Kd.V_alloc | apply Kd.V_drewN | apply Kd.V_drew)); exact Kd.V_mono HO313.out (fun _ hk => ⟨hk.1.1, ⟨hk.1.2, hk.2⟩⟩)), (by (with_reducible repeat (first | apply Kd.V_alloc | apply Kd.V_drewN | apply Kd.V_drew)); exact Kd.V_mono HO319.out (fun _ hk => ⟨hk.1.1, ⟨hk.1.2, hk.2⟩⟩)), (by (with_reducible repeat (first | apply Kd.V_alloc | apply Kd.V_drewN | apply Kd.V_drew)); exact Kd.V_mono HO325.out (fun _ hk => ⟨hk.1.1, ⟨hk.1.2, hk.2⟩⟩)), (by (with_reducible repeat (first | apply Kd.V_alloc | apply Kd.V_drewN | apply Kd.V_drew)); exact Kd.V_mono HO_0.out (fun _ hk => ⟨hk.1.1, ⟨hk.1.2, hk.2⟩⟩)), (by (with_reducible repeat (first | apply Kd.R_alloc | apply Kd.R_drewN | apply Kd.R_drew)); exact HO_3.out), (by (with_reducible repeat (first | refine blk_drewN ?_ _ | refine blk_drew ?_ | refine blk_alloc ?_ _)); exact BK327.out), GW327.out, GE327.out, (by repeat (first | (with_reducible first | exact HB.out | apply below_alloc | apply pw_below_drewN | apply below_drew1 | refine below_set ?_ GE327.out) | exact HB.out))⟩)
            rintro gb327 w36 ⟨hS_, h0_, h1_, h2_, h3_, h4_, h5_, h6_, h7_, h8_, h9_, h10_, h11_, h12_⟩
            have n0_ : Aside0 (Kd.V (Kd.int .u8) 5 w36 w.heap.size (fun k_ => (P0_ k_ ∨ w.heap.size ≤ k_) ∧ some k_ ≠ (u3 : Value).ownBlock ∧ k_ ≠ gb327) (.slice (some ad307) y284.length co26) y284) := ⟨h0_⟩
            have n1_ : Aside0 (Kd.V (Kd.int .u8) 5 w36 w.heap.size (fun k_ => (P0_ k_ ∨ w.heap.size ≤ k_) ∧ some k_ ≠ (u3 : Value).ownBlock ∧ k_ ≠ gb327) (.slice (some ad307) y289.length co26) y289) := ⟨h1_⟩
            have n2_ : Aside0 (Kd.V (Kd.int .u8) 5 w36 w.heap.size (fun k_ => (P0_ k_ ∨ w.heap.size ≤ k_) ∧ some k_ ≠ (u3 : Value).ownBlock ∧ k_ ≠ gb327) (.slice A30 y295.length c30) y295) := ⟨h2_⟩
            have n3_ : Aside0 (Kd.V (Kd.int .u8) 5 w36 w.heap.size (fun k_ => (P0_ k_ ∨ w.heap.size ≤ k_) ∧ some k_ ≠ (u3 : Value).ownBlock ∧ k_ ≠ gb327) (.slice A31 y301.length c31) y301) := ⟨h3_⟩
            have n4_ : Aside0 (Kd.V (Kd.int .u8) 5 w36 w.heap.size (fun k_ => (P0_ k_ ∨ w.heap.size ≤ k_) ∧ some k_ ≠ (u3 : Value).ownBlock ∧ k_ ≠ gb327) (.slice A32 y309.length c32) y309) := ⟨h4_⟩
            have n5_ : Aside0 (Kd.V (Kd.int .u8) 5 w36 w.heap.size (fun k_ => (P0_ k_ ∨ w.heap.size ≤ k_) ∧ some k_ ≠ (u3 : Value).ownBlock ∧ k_ ≠ gb327) (.slice A33 y315.length c33) y315) := ⟨h5_⟩
            have n6_ : Aside0 (Kd.V (Kd.int .u8) 5 w36 w.heap.size (fun k_ => (P0_ k_ ∨ w.heap.size ≤ k_) ∧ some k_ ≠ (u3 : Value).ownBlock ∧ k_ ≠ gb327) (.slice A34 y321.length c34) y321) := ⟨h6_⟩
            have n7_ : Aside0 (Kd.V (Kd.int .u8) 5 w36 w.heap.size (fun k_ => (P0_ k_ ∨ w.heap.size ≤ k_) ∧ some k_ ≠ (u3 : Value).ownBlock ∧ k_ ≠ gb327) (.slice (some ad307) x0_1.length co26) x0_1) := ⟨h7_⟩
            have n8_ : Aside0 (Kd.R k48 48 w36 w.heap.size (fun k_ => (w.heap.size ≤ k_) ∧ k_ ≠ gb327) u3 x3_1) := ⟨h8_⟩
            have n9_ : Aside0 (w36.heap[gb327]? = some (.cells #[.int .i64 0, .int .i64 0, .int .i64 0, .bool false, .int .i64 0, .bool false, .int .i64 0, .int .i64 0] 48 (0, 0))) := ⟨h9_⟩
            have n10_ : Aside0 (w.heap.size ≤ gb327) := ⟨h10_⟩
            have n11_ : Aside0 (w.heap.size ≤ gb327) := ⟨h11_⟩
            have n12_ : Aside0 (Below w.heap.size w w36) := ⟨h12_⟩
            clear HO_0
            clear HO_3
            clear HO288
            clear HB
            clear h0_ h1_ h2_ h3_ h4_ h5_ h6_ h7_ h8_ h9_ h10_ h11_ h12_
            have HO288 := n0_
            have HO293 := n1_
            have HO299 := n2_
            have HO305 := n3_
            have HO313 := n4_
            have HO319 := n5_
            have HO325 := n6_
            have HO_0 := n7_
            have HO_3 := n8_
            have BK327 := n9_
            have GW327 := n10_
            have GE327 := n11_
            have HB := n12_
            clear n0_ n1_ n2_ n3_ n4_ n5_ n6_ n7_ n8_ n9_ n10_ n11_ n12_
            have hHeld : w36.cell? ⟨ad307.block, ad307.off + 4, none⟩ = some (.int .u8 (rd y284 4)) ∧ w36.cell? ⟨ad307.block, ad307.off + 4, none⟩ = some (.int .u8 (rd y284 4)) := hS_
            refine norm_ (a' := ?_) ?_ ?_
            rotate_left
            ·simp only [putAll, Act.put, List.setIfInBounds_toArray, List.set_cons_zero, List.set_cons_succ]
             rfl
            refine one_ (i := 30) (N := none) #[true, true, true, true, true, true, true, true, true, true, true, true, true, true, true, true, true, true, true, true, true, true, true, true, true, true, true, true, true, true, true] rfl rfl (one_of HT_.out (by kernel_rfl)) (by decide) (fun K hK => ?_)
            have hs37 : w36.cell? ⟨gb327, 0, none⟩ = some (.int .i64 0) := (blk_cell BK327.out 0).trans rfl
            have hfs37 := blk_frozen BK327.out 0
            have hs38 : w36.cell? ⟨gb327, 1, none⟩ = some (.int .i64 0) := (blk_cell BK327.out 1).trans rfl
            have hfs38 := blk_frozen BK327.out 1
            have hs39 : w36.cell? ⟨gb327, 2, none⟩ = some (.int .i64 0) := (blk_cell BK327.out 2).trans rfl
            have hfs39 := blk_frozen BK327.out 2
            have hs40 : w36.cell? ⟨gb327, 3, none⟩ = some (.bool false) := (blk_cell BK327.out 3).trans rfl
            have hfs40 := blk_frozen BK327.out 3
            have hs41 : w36.cell? ⟨gb327, 4, none⟩ = some (.int .i64 0) := (blk_cell BK327.out 4).trans rfl
            have hfs41 := blk_frozen BK327.out 4
            have hs42 : w36.cell? ⟨gb327, 5, none⟩ = some (.bool false) := (blk_cell BK327.out 5).trans rfl
            have hfs42 := blk_frozen BK327.out 5
            have hs43 : w36.cell? ⟨gb327, 6, none⟩ = some (.int .i64 0) := (blk_cell BK327.out 6).trans rfl
            have hfs43 := blk_frozen BK327.out 6
            have hs44 : w36.cell? ⟨gb327, 7, none⟩ = some (.int .i64 0) := (blk_cell BK327.out 7).trans rfl
            have hfs44 := blk_frozen BK327.out 7
            refine skip_ (w1 := ?_) (by rfl) rfl ?_ ?_
            rotate_left
            ·go_simp
             rfl
            have NV_HO288 := Go.Proofs.Ythagppmaofcllaa.Lv.V_away HO288.out (fun _ hk => hk.2.2) (by have := KY27.out; omega)
            refine hK.out _ _ ⟨((cell_far (p := ⟨gb327, _, none⟩) (by exact NV_HO288) _).trans (((cell_far (p := ⟨gb327, _, none⟩) (by exact NV_HO288) _).trans (((cell_far (p := ⟨gb327, _, none⟩) (by exact NV_HO288) _).trans (((cell_far (p := ⟨gb327, _, none⟩) (by exact NV_HO288) _).trans (((cell_far (p := ⟨gb327, _, none⟩) (by exact NV_HO288) _).trans (((cell_far (p := ⟨gb327, _, none⟩) (by exact NV_HO288) _).trans (((cell_far (p := ⟨gb327, _, none⟩) (by exact NV_HO288) _).trans (((cell_far (p := ⟨gb327, _, none⟩) (by exact NV_HO288) _).trans (hHeld.1)))))))))))))))), ((cell_far (p := ⟨gb327, _, none⟩) (by exact NV_HO288) _).trans (((cell_far (p := ⟨gb327, _, none⟩) (by exact NV_HO288) _).trans (((cell_far (p := ⟨gb327, _, none⟩) (by exact NV_HO288) _).trans (((cell_far (p := ⟨gb327, _, none⟩) (by exact NV_HO288) _).trans (((cell_far (p := ⟨gb327, _, none⟩) (by exact NV_HO288) _).trans (((cell_far (p := ⟨gb327, _, none⟩) (by exact NV_HO288) _).trans (((cell_far (p := ⟨gb327, _, none⟩) (by exact NV_HO288) _).trans (((cell_far (p := ⟨gb327, _, none⟩) (by exact NV_HO288) _).trans (hHeld.2))))))))))))))))⟩ (fun hHeld => ?_)
            try clear NV_HO288
            clear hK K
            refine done_ (done_of HT_.out (by kernel_rfl)) ?_
            have H := HX_.out
            clear HX_
            by_cases c20 : t328 = 0
            ·rw [if_pos c20] at H
             have c20b0 : (t328 == 0) = true := beq_iff_eq.mpr c20
             have c20b1 : (t328 != 0) = false := bne_eq_false_iff_eq.mpr c20
             clear c20
             replace H := Option.bind_eq_some_iff.mp H
             obtain ⟨t329, A210, H⟩ := H
             replace H : ((slices_Equal_byte.f k1 t329 y284).bind fun t332 => (if t332 = true then (if x3_1.length < 2199023255552 then (impl_unpack.l0 k1 (x0_1.drop 13) (x3_1 ++ [(⟨t294, t300, t306, ((Go.bits .and .u8 (rd y284 4) 1) == 1), t314, ((Go.bits .and .u8 (rd y284 4) 2) == 2), t320, t326⟩ : S48)])) else (none)) else (some x3_1))) = some r := H
             have A21 := Aside0.mk A210
             clear A210
             replace H := Option.bind_eq_some_iff.mp H
             obtain ⟨t332, A220, H⟩ := H
             replace H : (if t332 = true then (if x3_1.length < 2199023255552 then (impl_unpack.l0 k1 (x0_1.drop 13) (x3_1 ++ [(⟨t294, t300, t306, ((Go.bits .and .u8 (rd y284 4) 1) == 1), t314, ((Go.bits .and .u8 (rd y284 4) 2) == 2), t320, t326⟩ : S48)])) else (none)) else (some x3_1)) = some r := H
             have A22 := Aside0.mk A220
             clear A220
             by_cases c23 : t332 = true
             ·subst c23
              have H1 : (if x3_1.length < 2199023255552 then (impl_unpack.l0 k1 (x0_1.drop 13) (x3_1 ++ [(⟨t294, t300, t306, ((Go.bits .and .u8 (rd y284 4) 1) == 1), t314, ((Go.bits .and .u8 (rd y284 4) 2) == 2), t320, t326⟩ : S48)])) else (none)) = some r := by rw [if_pos rfl] at H; exact H
              clear H
              have H := H1
              clear H1
              by_cases c24 : x3_1.length < 2199023255552
              ·rw [if_pos c24] at H
               have LMc24 := Aside0.mk c24
               clear c24
               obtain ⟨y333, hy333⟩ : ∃ y_ : List (S48), y_ = (x3_1 ++ [(⟨t294, t300, t306, ((Go.bits .and .u8 (rd y284 4) 1) == 1), t314, ((Go.bits .and .u8 (rd y284 4) 2) == 2), t320, t326⟩ : S48)]) := ⟨_, rfl⟩
               replace H : (impl_unpack.l0 k1 (x0_1.drop 13) y333) = some r := by first | (rw [hy333]; with_reducible exact H) | (have H2_ := (Option.bind_some _ _).symm.trans H; rw [hy333]; with_reducible exact H2_) | (have H2_ := (Option.bind_some _ _).symm.trans H; with_reducible exact H2_) | with_reducible exact H | (rw [hy333]; exact H) | exact H
               have Ny333 := Aside0.mk hy333
               clear hy333
               have c25b0 := eq_true (of_decide_eq_true (by first | (with_reducible assumption) | assumption) : 13 ≤ (x0_1.length : Int))
               obtain ⟨y336, hy336⟩ : ∃ y_ : List Int, y_ = (x0_1.drop 13) := ⟨_, rfl⟩
               replace H : (impl_unpack.l0 k1 y336 y333) = some r := by first | (rw [hy336]; with_reducible exact H) | (have H2_ := (Option.bind_some _ _).symm.trans H; rw [hy336]; with_reducible exact H2_) | (have H2_ := (Option.bind_some _ _).symm.trans H; with_reducible exact H2_) | with_reducible exact H | (rw [hy336]; exact H) | exact H
               have Ny336 := Aside0.mk hy336
               clear hy336
               have H' := Aside0.mk H
               clear H
               obtain ⟨hcz45_0, hcz45_1, hcz45_2, hcz45_3, hcz45_4, hcz45_5, hcz45_6, hcz45_7, hfz45_0, hfz45_1, hfz45_2, hfz45_3, hfz45_4, hfz45_5, hfz45_6, hfz45_7⟩ := Go.Proofs.Ythagppmaofcllaa.Lv.blks8 BK327.out
               try go_wp2_with (first | ((with_reducible refine gate_callee (f := 82) rfl ?_); refine goesL_ (some 44) rfl rfl Try.func82 (by kernel_rfl) rfl #[.agg #[.int .i64 t294, .int .i64 t300, .int .i64 t306, .bool ((Go.bits .and .u8 (rd y284 4) 1) == 1), .int .i64 t314, .bool ((Go.bits .and .u8 (rd y284 4) 2) == 2), .int .i64 t320, .int .i64 t326]] rfl (by (try simp only [List.map_toArray, List.map_cons, List.map_nil]); first | done | rfl | (simp only [List.length_drop, List.length_take]; rfl)) ?_; (with_reducible refine (impl_RecFault.calls k1 t294 t300 t306 ((Go.bits .and .u8 (rd y284 4) 1) == 1) t314 ((Go.bits .and .u8 (rd y284 4) 2) == 2) t320 t326 t328 _ A19.out).mono ?_); rintro e w46 ⟨rfl, hb⟩; refine ⟨_, rfl, ?_⟩; have n0_ := Aside0.mk (Kd.V_below (by (with_reducible repeat (first | apply Kd.V_alloc | apply Kd.V_drewN | apply Kd.V_drew)); exact (Kd.V_mono (Kd.V_far (p := ⟨gb327, 7, none⟩) (Kd.V_far (p := ⟨gb327, 6, none⟩) (Kd.V_far (p := ⟨gb327, 5, none⟩) (Kd.V_far (p := ⟨gb327, 4, none⟩) (Kd.V_far (p := ⟨gb327, 3, none⟩) (Kd.V_far (p := ⟨gb327, 2, none⟩) (Kd.V_far (p := ⟨gb327, 1, none⟩) (Kd.V_far (p := ⟨gb327, 0, none⟩) (Kd.V_mono HO_0.out (fun k_ hk => (⟨hk, hk.2.2⟩ : _ ∧ k_ ≠ gb327))) (fun _ hk => hk.2) (.int .i64 t294)) (fun _ hk => hk.2) (.int .i64 t300)) (fun _ hk => hk.2) (.int .i64 t306)) (fun _ hk => hk.2) (.bool ((Go.bits .and .u8 (rd y284 4) 1) == 1))) (fun _ hk => hk.2) (.int .i64 t314)) (fun _ hk => hk.2) (.bool ((Go.bits .and .u8 (rd y284 4) 2) == 2))) (fun _ hk => hk.2) (.int .i64 t320)) (fun _ hk => hk.2) (.int .i64 t326)) (fun _ h_ => h_.1))) hb); have n1_ := Aside0.mk (Kd.R_below (by (with_reducible repeat (first | apply Kd.R_alloc | apply Kd.R_drewN | apply Kd.R_drew)); exact (Kd.R_mono (Kd.R_far (p := ⟨gb327, 7, none⟩) (Kd.R_far (p := ⟨gb327, 6, none⟩) (Kd.R_far (p := ⟨gb327, 5, none⟩) (Kd.R_far (p := ⟨gb327, 4, none⟩) (Kd.R_far (p := ⟨gb327, 3, none⟩) (Kd.R_far (p := ⟨gb327, 2, none⟩) (Kd.R_far (p := ⟨gb327, 1, none⟩) (Kd.R_far (p := ⟨gb327, 0, none⟩) (Kd.R_mono HO_3.out (fun k_ hk => (⟨hk, hk.2⟩ : _ ∧ k_ ≠ gb327))) (fun _ hk => hk.2) (.int .i64 t294)) (fun _ hk => hk.2) (.int .i64 t300)) (fun _ hk => hk.2) (.int .i64 t306)) (fun _ hk => hk.2) (.bool ((Go.bits .and .u8 (rd y284 4) 1) == 1))) (fun _ hk => hk.2) (.int .i64 t314)) (fun _ hk => hk.2) (.bool ((Go.bits .and .u8 (rd y284 4) 2) == 2))) (fun _ hk => hk.2) (.int .i64 t320)) (fun _ hk => hk.2) (.int .i64 t326)) (fun _ h_ => h_.1))) hb); have n2_ := Aside0.mk (Kd.V_below (by (with_reducible repeat (first | apply Kd.V_alloc | apply Kd.V_drewN | apply Kd.V_drew)); exact (Kd.V_mono (Kd.V_far (p := ⟨gb327, 7, none⟩) (Kd.V_far (p := ⟨gb327, 6, none⟩) (Kd.V_far (p := ⟨gb327, 5, none⟩) (Kd.V_far (p := ⟨gb327, 4, none⟩) (Kd.V_far (p := ⟨gb327, 3, none⟩) (Kd.V_far (p := ⟨gb327, 2, none⟩) (Kd.V_far (p := ⟨gb327, 1, none⟩) (Kd.V_far (p := ⟨gb327, 0, none⟩) (Kd.V_mono HO288.out (fun k_ hk => (⟨hk, hk.2.2⟩ : _ ∧ k_ ≠ gb327))) (fun _ hk => hk.2) (.int .i64 t294)) (fun _ hk => hk.2) (.int .i64 t300)) (fun _ hk => hk.2) (.int .i64 t306)) (fun _ hk => hk.2) (.bool ((Go.bits .and .u8 (rd y284 4) 1) == 1))) (fun _ hk => hk.2) (.int .i64 t314)) (fun _ hk => hk.2) (.bool ((Go.bits .and .u8 (rd y284 4) 2) == 2))) (fun _ hk => hk.2) (.int .i64 t320)) (fun _ hk => hk.2) (.int .i64 t326)) (fun _ h_ => h_.1))) hb); have n3_ := Aside0.mk (Kd.V_below (by (with_reducible repeat (first | apply Kd.V_alloc | apply Kd.V_drewN | apply Kd.V_drew)); exact (Kd.V_mono (Kd.V_far (p := ⟨gb327, 7, none⟩) (Kd.V_far (p := ⟨gb327, 6, none⟩) (Kd.V_far (p := ⟨gb327, 5, none⟩) (Kd.V_far (p := ⟨gb327, 4, none⟩) (Kd.V_far (p := ⟨gb327, 3, none⟩) (Kd.V_far (p := ⟨gb327, 2, none⟩) (Kd.V_far (p := ⟨gb327, 1, none⟩) (Kd.V_far (p := ⟨gb327, 0, none⟩) (Kd.V_mono HO293.out (fun k_ hk => (⟨hk, hk.2.2⟩ : _ ∧ k_ ≠ gb327))) (fun _ hk => hk.2) (.int .i64 t294)) (fun _ hk => hk.2) (.int .i64 t300)) (fun _ hk => hk.2) (.int .i64 t306)) (fun _ hk => hk.2) (.bool ((Go.bits .and .u8 (rd y284 4) 1) == 1))) (fun _ hk => hk.2) (.int .i64 t314)) (fun _ hk => hk.2) (.bool ((Go.bits .and .u8 (rd y284 4) 2) == 2))) (fun _ hk => hk.2) (.int .i64 t320)) (fun _ hk => hk.2) (.int .i64 t326)) (fun _ h_ => h_.1))) hb); have n4_ := Aside0.mk (Kd.V_below (by (with_reducible repeat (first | apply Kd.V_alloc | apply Kd.V_drewN | apply Kd.V_drew)); exact (Kd.V_mono (Kd.V_far (p := ⟨gb327, 7, none⟩) (Kd.V_far (p := ⟨gb327, 6, none⟩) (Kd.V_far (p := ⟨gb327, 5, none⟩) (Kd.V_far (p := ⟨gb327, 4, none⟩) (Kd.V_far (p := ⟨gb327, 3, none⟩) (Kd.V_far (p := ⟨gb327, 2, none⟩) (Kd.V_far (p := ⟨gb327, 1, none⟩) (Kd.V_far (p := ⟨gb327, 0, none⟩) (Kd.V_mono HO299.out (fun k_ hk => (⟨hk, hk.2.2⟩ : _ ∧ k_ ≠ gb327))) (fun _ hk => hk.2) (.int .i64 t294)) (fun _ hk => hk.2) (.int .i64 t300)) (fun _ hk => hk.2) (.int .i64 t306)) (fun _ hk => hk.2) (.bool ((Go.bits .and .u8 (rd y284 4) 1) == 1))) (fun _ hk => hk.2) (.int .i64 t314)) (fun _ hk => hk.2) (.bool ((Go.bits .and .u8 (rd y284 4) 2) == 2))) (fun _ hk => hk.2) (.int .i64 t320)) (fun _ hk => hk.2) (.int .i64 t326)) (fun _ h_ => h_.1))) hb); have n5_ := Aside0.mk (Kd.V_below (by (with_reducible repeat (first | apply Kd.V_alloc | apply Kd.V_drewN | apply Kd.V_drew)); exact (Kd.V_mono (Kd.V_far (p := ⟨gb327, 7, none⟩) (Kd.V_far (p := ⟨gb327, 6, none⟩) (Kd.V_far (p := ⟨gb327, 5, none⟩) (Kd.V_far (p := ⟨gb327, 4, none⟩) (Kd.V_far (p := ⟨gb327, 3, none⟩) (Kd.V_far (p := ⟨gb327, 2, none⟩) (Kd.V_far (p := ⟨gb327, 1, none⟩) (Kd.V_far (p := ⟨gb327, 0, none⟩) (Kd.V_mono HO305.out (fun k_ hk => (⟨hk, hk.2.2⟩ : _ ∧ k_ ≠ gb327))) (fun _ hk => hk.2) (.int .i64 t294)) (fun _ hk => hk.2) (.int .i64 t300)) (fun _ hk => hk.2) (.int .i64 t306)) (fun _ hk => hk.2) (.bool ((Go.bits .and .u8 (rd y284 4) 1) == 1))) (fun _ hk => hk.2) (.int .i64 t314)) (fun _ hk => hk.2) (.bool ((Go.bits .and .u8 (rd y284 4) 2) == 2))) (fun _ hk => hk.2) (.int .i64 t320)) (fun _ hk => hk.2) (.int .i64 t326)) (fun _ h_ => h_.1))) hb); have n6_ := Aside0.mk (Kd.V_below (by (with_reducible repeat (first | apply Kd.V_alloc | apply Kd.V_drewN | apply Kd.V_drew)); exact (Kd.V_mono (Kd.V_far (p := ⟨gb327, 7, none⟩) (Kd.V_far (p := ⟨gb327, 6, none⟩) (Kd.V_far (p := ⟨gb327, 5, none⟩) (Kd.V_far (p := ⟨gb327, 4, none⟩) (Kd.V_far (p := ⟨gb327, 3, none⟩) (Kd.V_far (p := ⟨gb327, 2, none⟩) (Kd.V_far (p := ⟨gb327, 1, none⟩) (Kd.V_far (p := ⟨gb327, 0, none⟩) (Kd.V_mono HO313.out (fun k_ hk => (⟨hk, hk.2.2⟩ : _ ∧ k_ ≠ gb327))) (fun _ hk => hk.2) (.int .i64 t294)) (fun _ hk => hk.2) (.int .i64 t300)) (fun _ hk => hk.2) (.int .i64 t306)) (fun _ hk => hk.2) (.bool ((Go.bits .and .u8 (rd y284 4) 1) == 1))) (fun _ hk => hk.2) (.int .i64 t314)) (fun _ hk => hk.2) (.bool ((Go.bits .and .u8 (rd y284 4) 2) == 2))) (fun _ hk => hk.2) (.int .i64 t320)) (fun _ hk => hk.2) (.int .i64 t326)) (fun _ h_ => h_.1))) hb); have n7_ := Aside0.mk (Kd.V_below (by (with_reducible repeat (first | apply Kd.V_alloc | apply Kd.V_drewN | apply Kd.V_drew)); exact (Kd.V_mono (Kd.V_far (p := ⟨gb327, 7, none⟩) (Kd.V_far (p := ⟨gb327, 6, none⟩) (Kd.V_far (p := ⟨gb327, 5, none⟩) (Kd.V_far (p := ⟨gb327, 4, none⟩) (Kd.V_far (p := ⟨gb327, 3, none⟩) (Kd.V_far (p := ⟨gb327, 2, none⟩) (Kd.V_far (p := ⟨gb327, 1, none⟩) (Kd.V_far (p := ⟨gb327, 0, none⟩) (Kd.V_mono HO319.out (fun k_ hk => (⟨hk, hk.2.2⟩ : _ ∧ k_ ≠ gb327))) (fun _ hk => hk.2) (.int .i64 t294)) (fun _ hk => hk.2) (.int .i64 t300)) (fun _ hk => hk.2) (.int .i64 t306)) (fun _ hk => hk.2) (.bool ((Go.bits .and .u8 (rd y284 4) 1) == 1))) (fun _ hk => hk.2) (.int .i64 t314)) (fun _ hk => hk.2) (.bool ((Go.bits .and .u8 (rd y284 4) 2) == 2))) (fun _ hk => hk.2) (.int .i64 t320)) (fun _ hk => hk.2) (.int .i64 t326)) (fun _ h_ => h_.1))) hb); have n8_ := Aside0.mk (Kd.V_below (by (with_reducible repeat (first | apply Kd.V_alloc | apply Kd.V_drewN | apply Kd.V_drew)); exact (Kd.V_mono (Kd.V_far (p := ⟨gb327, 7, none⟩) (Kd.V_far (p := ⟨gb327, 6, none⟩) (Kd.V_far (p := ⟨gb327, 5, none⟩) (Kd.V_far (p := ⟨gb327, 4, none⟩) (Kd.V_far (p := ⟨gb327, 3, none⟩) (Kd.V_far (p := ⟨gb327, 2, none⟩) (Kd.V_far (p := ⟨gb327, 1, none⟩) (Kd.V_far (p := ⟨gb327, 0, none⟩) (Kd.V_mono HO325.out (fun k_ hk => (⟨hk, hk.2.2⟩ : _ ∧ k_ ≠ gb327))) (fun _ hk => hk.2) (.int .i64 t294)) (fun _ hk => hk.2) (.int .i64 t300)) (fun _ hk => hk.2) (.int .i64 t306)) (fun _ hk => hk.2) (.bool ((Go.bits .and .u8 (rd y284 4) 1) == 1))) (fun _ hk => hk.2) (.int .i64 t314)) (fun _ hk => hk.2) (.bool ((Go.bits .and .u8 (rd y284 4) 2) == 2))) (fun _ hk => hk.2) (.int .i64 t320)) (fun _ hk => hk.2) (.int .i64 t326)) (fun _ h_ => h_.1))) hb); have n9_ := Aside0.mk (blk_below (g := gb327) (o := .cells #[.int .i64 t294, .int .i64 t300, .int .i64 t306, .bool ((Go.bits .and .u8 (rd y284 4) 1) == 1), .int .i64 t314, .bool ((Go.bits .and .u8 (rd y284 4) 2) == 2), .int .i64 t320, .int .i64 t326] 48 (0, 0)) (by (with_reducible repeat (first | refine blk_drewN ?_ _ | refine blk_drew ?_ | refine blk_alloc ?_ _)); refine blk_put (cs := #[.int .i64 t294, .int .i64 t300, .int .i64 t306, .bool ((Go.bits .and .u8 (rd y284 4) 1) == 1), .int .i64 t314, .bool ((Go.bits .and .u8 (rd y284 4) 2) == 2), .int .i64 t320, .int .i64 0]) ?_ 7 _ rfl; (with_reducible repeat (first | refine blk_drewN ?_ _ | refine blk_drew ?_ | refine blk_alloc ?_ _)); refine blk_put (cs := #[.int .i64 t294, .int .i64 t300, .int .i64 t306, .bool ((Go.bits .and .u8 (rd y284 4) 1) == 1), .int .i64 t314, .bool ((Go.bits .and .u8 (rd y284 4) 2) == 2), .int .i64 0, .int .i64 0]) ?_ 6 _ rfl; (with_reducible repeat (first | refine blk_drewN ?_ _ | refine blk_drew ?_ | refine blk_alloc ?_ _)); refine blk_put (cs := #[.int .i64 t294, .int .i64 t300, .int .i64 t306, .bool ((Go.bits .and .u8 (rd y284 4) 1) == 1), .int .i64 t314, .bool false, .int .i64 0, .int .i64 0]) ?_ 5 _ rfl; (with_reducible repeat (first | refine blk_drewN ?_ _ | refine blk_drew ?_ | refine blk_alloc ?_ _)); refine blk_put (cs := #[.int .i64 t294, .int .i64 t300, .int .i64 t306, .bool ((Go.bits .and .u8 (rd y284 4) 1) == 1), .int .i64 0, .bool false, .int .i64 0, .int .i64 0]) ?_ 4 _ rfl; (with_reducible repeat (first | refine blk_drewN ?_ _ | refine blk_drew ?_ | refine blk_alloc ?_ _)); refine blk_put (cs := #[.int .i64 t294, .int .i64 t300, .int .i64 t306, .bool false, .int .i64 0, .bool false, .int .i64 0, .int .i64 0]) ?_ 3 _ rfl; (with_reducible repeat (first | refine blk_drewN ?_ _ | refine blk_drew ?_ | refine blk_alloc ?_ _)); refine blk_put (cs := #[.int .i64 t294, .int .i64 t300, .int .i64 0, .bool false, .int .i64 0, .bool false, .int .i64 0, .int .i64 0]) ?_ 2 _ rfl; (with_reducible repeat (first | refine blk_drewN ?_ _ | refine blk_drew ?_ | refine blk_alloc ?_ _)); refine blk_put (cs := #[.int .i64 t294, .int .i64 0, .int .i64 0, .bool false, .int .i64 0, .bool false, .int .i64 0, .int .i64 0]) ?_ 1 _ rfl; (with_reducible repeat (first | refine blk_drewN ?_ _ | refine blk_drew ?_ | refine blk_alloc ?_ _)); refine blk_put (cs := #[.int .i64 0, .int .i64 0, .int .i64 0, .bool false, .int .i64 0, .bool false, .int .i64 0, .int .i64 0]) ?_ 0 _ rfl; (with_reducible repeat (first | refine blk_drewN ?_ _ | refine blk_drew ?_ | refine blk_alloc ?_ _)); exact BK327.out) hb); have n10_ := Aside0.mk (below_step (by repeat (first | (with_reducible first | exact HB.out | apply below_alloc | apply pw_below_drewN | apply below_drew1 | refine below_set ?_ GE327.out) | exact HB.out)) hb); clear HO_0; clear HO_3; clear HO288; clear HO293; clear HO299; clear HO305; clear HO313; clear HO319; clear HO325; clear BK327; clear HB; have HO_0 := n0_; have HO_3 := n1_; have HO288 := n2_; have HO293 := n3_; have HO299 := n4_; have HO305 := n5_; have HO313 := n6_; have HO319 := n7_; have HO325 := n8_; have BK327 := n9_; have HB := n10_; clear n0_ n1_ n2_ n3_ n4_ n5_ n6_ n7_ n8_ n9_ n10_; (try clear hb); (try clear hb2); (try clear hk); (try clear hi); obtain ⟨hcz47_0, hcz47_1, hcz47_2, hcz47_3, hcz47_4, hcz47_5, hcz47_6, hcz47_7, hfz47_0, hfz47_1, hfz47_2, hfz47_3, hfz47_4, hfz47_5, hfz47_6, hfz47_7⟩ := Go.Proofs.Ythagppmaofcllaa.Lv.blks8 BK327.out) | (go_at_call 84; (with_reducible refine (impl_Rec_pack.calls k1 t294 t300 t306 ((Go.bits .and .u8 (rd y284 4) 1) == 1) t314 ((Go.bits .and .u8 (rd y284 4) 2) == 2) t320 t326 t329 _ A21.out).mono ?_); rintro e w48 ⟨v330, rfl, ho0, hb⟩; have n0_ := Aside0.mk (Kd.V_elder' (by (with_reducible repeat (first | apply Kd.V_alloc | apply Kd.V_drewN | apply Kd.V_drew)); exact HO_0.out) (Kd.R_base ho0) hb); have n1_ := Aside0.mk (Kd.R_below (by (with_reducible repeat (first | apply Kd.R_alloc | apply Kd.R_drewN | apply Kd.R_drew)); exact HO_3.out) hb); have n2_ := Aside0.mk (Kd.V_elder' (by (with_reducible repeat (first | apply Kd.V_alloc | apply Kd.V_drewN | apply Kd.V_drew)); exact HO288.out) (Kd.R_base ho0) hb); have n3_ := Aside0.mk (Kd.V_elder' (by (with_reducible repeat (first | apply Kd.V_alloc | apply Kd.V_drewN | apply Kd.V_drew)); exact HO293.out) (Kd.R_base ho0) hb); have n4_ := Aside0.mk (Kd.V_elder' (by (with_reducible repeat (first | apply Kd.V_alloc | apply Kd.V_drewN | apply Kd.V_drew)); exact HO299.out) (Kd.R_base ho0) hb); have n5_ := Aside0.mk (Kd.V_elder' (by (with_reducible repeat (first | apply Kd.V_alloc | apply Kd.V_drewN | apply Kd.V_drew)); exact HO305.out) (Kd.R_base ho0) hb); have n6_ := Aside0.mk (Kd.V_elder' (by (with_reducible repeat (first | apply Kd.V_alloc | apply Kd.V_drewN | apply Kd.V_drew)); exact HO313.out) (Kd.R_base ho0) hb); have n7_ := Aside0.mk (Kd.V_elder' (by (with_reducible repeat (first | apply Kd.V_alloc | apply Kd.V_drewN | apply Kd.V_drew)); exact HO319.out) (Kd.R_base ho0) hb); have n8_ := Aside0.mk (Kd.V_elder' (by (with_reducible repeat (first | apply Kd.V_alloc | apply Kd.V_drewN | apply Kd.V_drew)); exact HO325.out) (Kd.R_base ho0) hb); have n9_ := Aside0.mk (Kd.R_lower (Kd.R_newM (M := fun k_ => (w.heap.size ≤ k_)) ho0 (below_size (by repeat (first | (with_reducible first | exact HB.out | apply below_alloc | apply pw_below_drewN | apply below_drew1 | refine below_set ?_ GE327.out) | exact HB.out))) (fun k_ h_ => h_)) (below_size (by repeat (first | (with_reducible first | exact HB.out | apply below_alloc | apply pw_below_drewN | apply below_drew1 | refine below_set ?_ GE327.out) | exact HB.out)))); have n10_ := Aside0.mk (blk_below (g := gb327) (o := .cells #[.int .i64 t294, .int .i64 t300, .int .i64 t306, .bool ((Go.bits .and .u8 (rd y284 4) 1) == 1), .int .i64 t314, .bool ((Go.bits .and .u8 (rd y284 4) 2) == 2), .int .i64 t320, .int .i64 t326] 48 (0, 0)) (by (with_reducible repeat (first | refine blk_drewN ?_ _ | refine blk_drew ?_ | refine blk_alloc ?_ _)); exact BK327.out) hb); have n11_ := Aside0.mk (below_step (by repeat (first | (with_reducible first | exact HB.out | apply below_alloc | apply pw_below_drewN | apply below_drew1 | refine below_set ?_ GE327.out) | exact HB.out)) hb); clear HO_0; clear HO_3; clear HO288; clear HO293; clear HO299; clear HO305; clear HO313; clear HO319; clear HO325; clear BK327; clear HB; have HO_0 := n0_; have HO_3 := n1_; have HO288 := n2_; have HO293 := n3_; have HO299 := n4_; have HO305 := n5_; have HO313 := n6_; have HO319 := n7_; have HO325 := n8_; have HO331 := n9_; have BK327 := n10_; have HB := n11_; clear n0_ n1_ n2_ n3_ n4_ n5_ n6_ n7_ n8_ n9_ n10_ n11_; (try clear hb); (try clear hb2); (try clear hk); (try clear hi); (try clear ho0); obtain ⟨Ao49, co49, eo49⟩ := Kd.R_slice HO331.out; subst eo49) | (go_at_call 83; (with_reducible refine (slices_Equal_byte.calls k1 _ _ t329 _ _ y284 true _ ?side1 ?side2 ?side3 ?side4 A22.out).mono ?_); (case side1 => repeat (first | exact (Kd.R_reads' HO331.out).2.2 | (with_reducible refine Kd.C_alloc ?_ _) | (with_reducible refine Kd.C_drewN ?_ _) | (with_reducible refine Kd.C_drew ?_))); (case side2 => exact (Kd.R_reads' HO331.out).2.1); (case side3 => repeat (first | exact (Kd.V_reads' HO288.out).2.2 | (with_reducible refine Kd.C_alloc ?_ _) | (with_reducible refine Kd.C_drewN ?_ _) | (with_reducible refine Kd.C_drew ?_))); (case side4 => exact (Kd.V_reads' HO288.out).2.1); rintro e w' ⟨rfl, ⟨nd, rfl⟩⟩; obtain ⟨hcz50_0, hcz50_1, hcz50_2, hcz50_3, hcz50_4, hcz50_5, hcz50_6, hcz50_7, hfz50_0, hfz50_1, hfz50_2, hfz50_3, hfz50_4, hfz50_5, hfz50_6, hfz50_7⟩ := Go.Proofs.Ythagppmaofcllaa.Lv.blks8 BK327.out) | ((with_reducible refine gate_builtin (b := .append) (xs := #[.tmp 53, .tmp 55]) rfl ?_); at_builtin; refine Kd.R_append k48 (w0 := w) w.heap.size rfl (.tmp 53) (.tmp 55) 37 48 (.agg #[(.int .i64 0), (.int .i64 0), (.int .i64 0), (.bool false), (.int .i64 0), (.bool false), (.int .i64 0), (.int .i64 0)]) 64 rfl Try.underlying37 info48 rfl (by decide) (by omega) u3 x3_1 (⟨t294, t300, t306, ((Go.bits .and .u8 (rd y284 4) 1) == 1), t314, ((Go.bits .and .u8 (rd y284 4) 2) == 2), t320, t326⟩ : S48) [.int .i64 t294, .int .i64 t300, .int .i64 t306, .bool ((Go.bits .and .u8 (rd y284 4) 1) == 1), .int .i64 t314, .bool ((Go.bits .and .u8 (rd y284 4) 2) == 2), .int .i64 t320, .int .i64 t326] (fun k_ => (w.heap.size ≤ k_) ∧ k_ ≠ gb327) (fun _ => False) rfl rfl ?aP (fun _ hk => hk.elim) ?aF ?aO ?aB ?aS ?aL ?_; (case aP => exact k48_mkM _ _ _ (⟨t294, t300, t306, ((Go.bits .and .u8 (rd y284 4) 1) == 1), t314, ((Go.bits .and .u8 (rd y284 4) 2) == 2), t320, t326⟩ : S48)); (case aB => exact (by repeat (first | (with_reducible first | exact HB.out | apply below_alloc | apply pw_below_drewN | apply below_drew1 | refine below_set ?_ GE327.out) | exact HB.out))); (case aF => exact (fun k_ hk => ⟨(Nat.le_trans (below_size (by repeat (first | (with_reducible first | exact HB.out | apply below_alloc | apply pw_below_drewN | apply below_drew1 | refine below_set ?_ GE327.out) | exact HB.out))) hk), Kd.freshB (g := gb327) (o := .cells #[.int .i64 t294, .int .i64 t300, .int .i64 t306, .bool ((Go.bits .and .u8 (rd y284 4) 1) == 1), .int .i64 t314, .bool ((Go.bits .and .u8 (rd y284 4) 2) == 2), .int .i64 t320, .int .i64 t326] 48 (0, 0)) (by (with_reducible repeat (first | refine blk_drewN ?_ _ | refine blk_drew ?_ | refine blk_alloc ?_ _)); exact BK327.out) k_ hk⟩)); (case aO => exact (by (with_reducible repeat (first | apply Kd.R_alloc | apply Kd.R_drewN | apply Kd.R_drew)); exact HO_3.out)); (case aS => exact (below_size (by repeat (first | (with_reducible first | exact HB.out | apply below_alloc | apply pw_below_drewN | apply below_drew1 | refine below_set ?_ GE327.out) | exact HB.out)))); (case aL => have := LMc24.out; omega); intro v334 w51 ho hb hg hat; rw [← Ny333.out] at ho; have n0_ := Aside0.mk (Kd.V_afterv (ok := (fun k_ => (P0_ k_ ∨ w.heap.size ≤ k_) ∧ some k_ ≠ (.slice Ao49 t329.length co49 : Value).ownBlock ∧ k_ ≠ gb327)) (by (with_reducible repeat (first | apply Kd.V_alloc | apply Kd.V_drewN | apply Kd.V_drew)); exact Kd.V_mono HO_0.out (fun _ hk => ⟨⟨hk.1.1, ⟨hk.2, hk.1.2.2⟩⟩, hk.1.2.1⟩)) hg hat); have n1_ := Aside0.mk (Kd.V_afterv (ok := (fun k_ => (P0_ k_ ∨ w.heap.size ≤ k_) ∧ some k_ ≠ (.slice Ao49 t329.length co49 : Value).ownBlock ∧ k_ ≠ gb327)) (by (with_reducible repeat (first | apply Kd.V_alloc | apply Kd.V_drewN | apply Kd.V_drew)); exact Kd.V_mono HO288.out (fun _ hk => ⟨⟨hk.1.1, ⟨hk.2, hk.1.2.2⟩⟩, hk.1.2.1⟩)) hg hat); have n2_ := Aside0.mk (Kd.V_afterv (ok := (fun k_ => (P0_ k_ ∨ w.heap.size ≤ k_) ∧ some k_ ≠ (.slice Ao49 t329.length co49 : Value).ownBlock ∧ k_ ≠ gb327)) (by (with_reducible repeat (first | apply Kd.V_alloc | apply Kd.V_drewN | apply Kd.V_drew)); exact Kd.V_mono HO293.out (fun _ hk => ⟨⟨hk.1.1, ⟨hk.2, hk.1.2.2⟩⟩, hk.1.2.1⟩)) hg hat); have n3_ := Aside0.mk (Kd.V_afterv (ok := (fun k_ => (P0_ k_ ∨ w.heap.size ≤ k_) ∧ some k_ ≠ (.slice Ao49 t329.length co49 : Value).ownBlock ∧ k_ ≠ gb327)) (by (with_reducible repeat (first | apply Kd.V_alloc | apply Kd.V_drewN | apply Kd.V_drew)); exact Kd.V_mono HO299.out (fun _ hk => ⟨⟨hk.1.1, ⟨hk.2, hk.1.2.2⟩⟩, hk.1.2.1⟩)) hg hat); have n4_ := Aside0.mk (Kd.V_afterv (ok := (fun k_ => (P0_ k_ ∨ w.heap.size ≤ k_) ∧ some k_ ≠ (.slice Ao49 t329.length co49 : Value).ownBlock ∧ k_ ≠ gb327)) (by (with_reducible repeat (first | apply Kd.V_alloc | apply Kd.V_drewN | apply Kd.V_drew)); exact Kd.V_mono HO305.out (fun _ hk => ⟨⟨hk.1.1, ⟨hk.2, hk.1.2.2⟩⟩, hk.1.2.1⟩)) hg hat); have n5_ := Aside0.mk (Kd.V_afterv (ok := (fun k_ => (P0_ k_ ∨ w.heap.size ≤ k_) ∧ some k_ ≠ (.slice Ao49 t329.length co49 : Value).ownBlock ∧ k_ ≠ gb327)) (by (with_reducible repeat (first | apply Kd.V_alloc | apply Kd.V_drewN | apply Kd.V_drew)); exact Kd.V_mono HO313.out (fun _ hk => ⟨⟨hk.1.1, ⟨hk.2, hk.1.2.2⟩⟩, hk.1.2.1⟩)) hg hat); have n6_ := Aside0.mk (Kd.V_afterv (ok := (fun k_ => (P0_ k_ ∨ w.heap.size ≤ k_) ∧ some k_ ≠ (.slice Ao49 t329.length co49 : Value).ownBlock ∧ k_ ≠ gb327)) (by (with_reducible repeat (first | apply Kd.V_alloc | apply Kd.V_drewN | apply Kd.V_drew)); exact Kd.V_mono HO319.out (fun _ hk => ⟨⟨hk.1.1, ⟨hk.2, hk.1.2.2⟩⟩, hk.1.2.1⟩)) hg hat); have n7_ := Aside0.mk (Kd.V_afterv (ok := (fun k_ => (P0_ k_ ∨ w.heap.size ≤ k_) ∧ some k_ ≠ (.slice Ao49 t329.length co49 : Value).ownBlock ∧ k_ ≠ gb327)) (by (with_reducible repeat (first | apply Kd.V_alloc | apply Kd.V_drewN | apply Kd.V_drew)); exact Kd.V_mono HO325.out (fun _ hk => ⟨⟨hk.1.1, ⟨hk.2, hk.1.2.2⟩⟩, hk.1.2.1⟩)) hg hat); have n8_ := Aside0.mk (blk_grown (g := gb327) (o := .cells #[.int .i64 t294, .int .i64 t300, .int .i64 t306, .bool ((Go.bits .and .u8 (rd y284 4) 1) == 1), .int .i64 t314, .bool ((Go.bits .and .u8 (rd y284 4) 2) == 2), .int .i64 t320, .int .i64 t326] 48 (0, 0)) (by (with_reducible repeat (first | refine blk_drewN ?_ _ | refine blk_drew ?_ | refine blk_alloc ?_ _)); exact BK327.out) hg (Kd.R_away HO_3.out (fun _ hk => hk.2))); have n9_ := Aside0.mk (Kd.R_over' (by (with_reducible repeat (first | apply Kd.R_alloc | apply Kd.R_drewN | apply Kd.R_drew)); exact HO331.out) (Kd.R_typed (by (with_reducible repeat (first | apply Kd.R_alloc | apply Kd.R_drewN | apply Kd.R_drew)); exact HO_3.out)) (by decide) hg); have n10_ := Aside0.mk (hb); have n11_ := Aside0.mk (ho); clear HO_0; clear HO288; clear HO293; clear HO299; clear HO305; clear HO313; clear HO319; clear HO325; clear BK327; clear HO331; clear HB; clear HO_3; have HO_0 := n0_; have HO288 := n1_; have HO293 := n2_; have HO299 := n3_; have HO305 := n4_; have HO313 := n5_; have HO319 := n6_; have HO325 := n7_; have BK327 := n8_; have HO331 := n9_; have HB := n10_; have HO335 := n11_; clear n0_ n1_ n2_ n3_ n4_ n5_ n6_ n7_ n8_ n9_ n10_ n11_; clear ho hb hg hat; have q52 : (13 : Int) ≤ ((x0_1.length : Int) : Int) := of_decide_eq_true (by first | (with_reducible assumption) | assumption); obtain ⟨i052, hi052, _, hsz52, _⟩ := info_parts info5; have hroom52 : x0_1.length ≤ co26 := (Kd.V_reads' HO_0.out).2.1; have hC52 : Kd.F (Kd.int .u8) _ _ (some ad307) x0_1.length x0_1 := (Kd.V_at (base := w.heap.size) HO_0.out).2.2; have hcut52 := cut_from (P := Try.prog) 22 5 .i64 Try.underlying22 hi052 1 hsz52 (some ad307) x0_1.length co26 13 (by omega) q52; have hr52 := Kd.F_cut (m := (13 : Int).toNat) (c := co26) hC52 (by omega) hroom52; obtain ⟨A52, hA52⟩ : ∃ A1, A1 = (if co26 = (13 : Int).toNat then (some ad307) else ((some ad307) : Option Addr).map (·.add ((13 : Int).toNat * 1))) := ⟨_, rfl⟩; obtain ⟨c52, hc52⟩ : ∃ c1, c1 = co26 - (13 : Int).toNat := ⟨_, rfl⟩; have hy52 : y336.length = x0_1.length - (13 : Int).toNat := (by rw [Ny336.out, List.length_drop] <;> omega); rw [show (x0_1).drop (13 : Int).toNat = y336 from Ny336.out.symm] at hr52; replace hr52 : Kd.F (Kd.int .u8) _ _ A52 y336.length y336 := (by rw [hA52]; exact hr52); rw [← hy52, ← hA52, ← hc52] at hcut52; have HO340 := Aside0.mk (show Kd.V (Kd.int .u8) 5 _ w.heap.size _ (.slice A52 y336.length c52) y336 from Kd.V_mk (by rw [hy52, hc52]; exact Nat.sub_le_sub_right hroom52 _) hr52); have HC340 := Aside0.mk (show y336.length ≤ c52 from by rw [hy52, hc52]; exact Nat.sub_le_sub_right hroom52 _); clear hr52 hC52 hroom52 hi052 hsz52 hc52; have KY52 := Aside0.mk hy52; have KA52 := Aside0.mk hA52; clear hy52 hA52; replace q52 := eq_true q52))
               go_roundg k1
               case measure => have := HK1.out; omega
               case rel => exact ⟨(y336), (y333), H', ⟨by have := HK1.out; omega⟩, ⟨by (with_reducible repeat (first | apply Kd.V_alloc | apply Kd.V_drewN | apply Kd.V_drew)); exact Kd.V_mono HO340.out (fun _ hk => ⟨hk.1.1, hk.2⟩)⟩, ⟨by (with_reducible repeat (first | apply Kd.R_alloc | apply Kd.R_drewN | apply Kd.R_drew)); exact Kd.R_mono HO335.out (fun _ hk => hk.1)⟩, ⟨by repeat (first | (with_reducible first | exact HB.out | apply below_alloc | apply pw_below_drewN | apply below_drew1 | refine below_set ?_ GE327.out) | exact HB.out)⟩⟩
              ·rw [if_neg c24] at H
               exact absurd H (by simp)
             ·replace c23 := Bool.eq_false_iff.mpr c23
              subst c23
              have H1 : (some x3_1) = some r := by rw [if_neg (show ¬ (false = true) by decide)] at H; exact H
              clear H
              have H := H1
              clear H1
              obtain rfl := Option.some.inj H
              obtain ⟨hcz72_0, hcz72_1, hcz72_2, hcz72_3, hcz72_4, hcz72_5, hcz72_6, hcz72_7, hfz72_0, hfz72_1, hfz72_2, hfz72_3, hfz72_4, hfz72_5, hfz72_6, hfz72_7⟩ := Go.Proofs.Ythagppmaofcllaa.Lv.blks8 BK327.out
              try go_wp2_with (first | ((with_reducible refine gate_callee (f := 82) rfl ?_); refine goesL_ (some 44) rfl rfl Try.func82 (by kernel_rfl) rfl #[.agg #[.int .i64 t294, .int .i64 t300, .int .i64 t306, .bool ((Go.bits .and .u8 (rd y284 4) 1) == 1), .int .i64 t314, .bool ((Go.bits .and .u8 (rd y284 4) 2) == 2), .int .i64 t320, .int .i64 t326]] rfl (by (try simp only [List.map_toArray, List.map_cons, List.map_nil]); first | done | rfl | (simp only [List.length_drop, List.length_take]; rfl)) ?_; (with_reducible refine (impl_RecFault.calls k1 t294 t300 t306 ((Go.bits .and .u8 (rd y284 4) 1) == 1) t314 ((Go.bits .and .u8 (rd y284 4) 2) == 2) t320 t326 t328 _ A19.out).mono ?_); rintro e w73 ⟨rfl, hb⟩; refine ⟨_, rfl, ?_⟩; have n0_ := Aside0.mk (Kd.V_below (by (with_reducible repeat (first | apply Kd.V_alloc | apply Kd.V_drewN | apply Kd.V_drew)); exact (Kd.V_mono (Kd.V_far (p := ⟨gb327, 7, none⟩) (Kd.V_far (p := ⟨gb327, 6, none⟩) (Kd.V_far (p := ⟨gb327, 5, none⟩) (Kd.V_far (p := ⟨gb327, 4, none⟩) (Kd.V_far (p := ⟨gb327, 3, none⟩) (Kd.V_far (p := ⟨gb327, 2, none⟩) (Kd.V_far (p := ⟨gb327, 1, none⟩) (Kd.V_far (p := ⟨gb327, 0, none⟩) (Kd.V_mono HO_0.out (fun k_ hk => (⟨hk, hk.2.2⟩ : _ ∧ k_ ≠ gb327))) (fun _ hk => hk.2) (.int .i64 t294)) (fun _ hk => hk.2) (.int .i64 t300)) (fun _ hk => hk.2) (.int .i64 t306)) (fun _ hk => hk.2) (.bool ((Go.bits .and .u8 (rd y284 4) 1) == 1))) (fun _ hk => hk.2) (.int .i64 t314)) (fun _ hk => hk.2) (.bool ((Go.bits .and .u8 (rd y284 4) 2) == 2))) (fun _ hk => hk.2) (.int .i64 t320)) (fun _ hk => hk.2) (.int .i64 t326)) (fun _ h_ => h_.1))) hb); have n1_ := Aside0.mk (Kd.R_below (by (with_reducible repeat (first | apply Kd.R_alloc | apply Kd.R_drewN | apply Kd.R_drew)); exact (Kd.R_mono (Kd.R_far (p := ⟨gb327, 7, none⟩) (Kd.R_far (p := ⟨gb327, 6, none⟩) (Kd.R_far (p := ⟨gb327, 5, none⟩) (Kd.R_far (p := ⟨gb327, 4, none⟩) (Kd.R_far (p := ⟨gb327, 3, none⟩) (Kd.R_far (p := ⟨gb327, 2, none⟩) (Kd.R_far (p := ⟨gb327, 1, none⟩) (Kd.R_far (p := ⟨gb327, 0, none⟩) (Kd.R_mono HO_3.out (fun k_ hk => (⟨hk, hk.2⟩ : _ ∧ k_ ≠ gb327))) (fun _ hk => hk.2) (.int .i64 t294)) (fun _ hk => hk.2) (.int .i64 t300)) (fun _ hk => hk.2) (.int .i64 t306)) (fun _ hk => hk.2) (.bool ((Go.bits .and .u8 (rd y284 4) 1) == 1))) (fun _ hk => hk.2) (.int .i64 t314)) (fun _ hk => hk.2) (.bool ((Go.bits .and .u8 (rd y284 4) 2) == 2))) (fun _ hk => hk.2) (.int .i64 t320)) (fun _ hk => hk.2) (.int .i64 t326)) (fun _ h_ => h_.1))) hb); have n2_ := Aside0.mk (Kd.V_below (by (with_reducible repeat (first | apply Kd.V_alloc | apply Kd.V_drewN | apply Kd.V_drew)); exact (Kd.V_mono (Kd.V_far (p := ⟨gb327, 7, none⟩) (Kd.V_far (p := ⟨gb327, 6, none⟩) (Kd.V_far (p := ⟨gb327, 5, none⟩) (Kd.V_far (p := ⟨gb327, 4, none⟩) (Kd.V_far (p := ⟨gb327, 3, none⟩) (Kd.V_far (p := ⟨gb327, 2, none⟩) (Kd.V_far (p := ⟨gb327, 1, none⟩) (Kd.V_far (p := ⟨gb327, 0, none⟩) (Kd.V_mono HO288.out (fun k_ hk => (⟨hk, hk.2.2⟩ : _ ∧ k_ ≠ gb327))) (fun _ hk => hk.2) (.int .i64 t294)) (fun _ hk => hk.2) (.int .i64 t300)) (fun _ hk => hk.2) (.int .i64 t306)) (fun _ hk => hk.2) (.bool ((Go.bits .and .u8 (rd y284 4) 1) == 1))) (fun _ hk => hk.2) (.int .i64 t314)) (fun _ hk => hk.2) (.bool ((Go.bits .and .u8 (rd y284 4) 2) == 2))) (fun _ hk => hk.2) (.int .i64 t320)) (fun _ hk => hk.2) (.int .i64 t326)) (fun _ h_ => h_.1))) hb); have n3_ := Aside0.mk (Kd.V_below (by (with_reducible repeat (first | apply Kd.V_alloc | apply Kd.V_drewN | apply Kd.V_drew)); exact (Kd.V_mono (Kd.V_far (p := ⟨gb327, 7, none⟩) (Kd.V_far (p := ⟨gb327, 6, none⟩) (Kd.V_far (p := ⟨gb327, 5, none⟩) (Kd.V_far (p := ⟨gb327, 4, none⟩) (Kd.V_far (p := ⟨gb327, 3, none⟩) (Kd.V_far (p := ⟨gb327, 2, none⟩) (Kd.V_far (p := ⟨gb327, 1, none⟩) (Kd.V_far (p := ⟨gb327, 0, none⟩) (Kd.V_mono HO293.out (fun k_ hk => (⟨hk, hk.2.2⟩ : _ ∧ k_ ≠ gb327))) (fun _ hk => hk.2) (.int .i64 t294)) (fun _ hk => hk.2) (.int .i64 t300)) (fun _ hk => hk.2) (.int .i64 t306)) (fun _ hk => hk.2) (.bool ((Go.bits .and .u8 (rd y284 4) 1) == 1))) (fun _ hk => hk.2) (.int .i64 t314)) (fun _ hk => hk.2) (.bool ((Go.bits .and .u8 (rd y284 4) 2) == 2))) (fun _ hk => hk.2) (.int .i64 t320)) (fun _ hk => hk.2) (.int .i64 t326)) (fun _ h_ => h_.1))) hb); have n4_ := Aside0.mk (Kd.V_below (by (with_reducible repeat (first | apply Kd.V_alloc | apply Kd.V_drewN | apply Kd.V_drew)); exact (Kd.V_mono (Kd.V_far (p := ⟨gb327, 7, none⟩) (Kd.V_far (p := ⟨gb327, 6, none⟩) (Kd.V_far (p := ⟨gb327, 5, none⟩) (Kd.V_far (p := ⟨gb327, 4, none⟩) (Kd.V_far (p := ⟨gb327, 3, none⟩) (Kd.V_far (p := ⟨gb327, 2, none⟩) (Kd.V_far (p := ⟨gb327, 1, none⟩) (Kd.V_far (p := ⟨gb327, 0, none⟩) (Kd.V_mono HO299.out (fun k_ hk => (⟨hk, hk.2.2⟩ : _ ∧ k_ ≠ gb327))) (fun _ hk => hk.2) (.int .i64 t294)) (fun _ hk => hk.2) (.int .i64 t300)) (fun _ hk => hk.2) (.int .i64 t306)) (fun _ hk => hk.2) (.bool ((Go.bits .and .u8 (rd y284 4) 1) == 1))) (fun _ hk => hk.2) (.int .i64 t314)) (fun _ hk => hk.2) (.bool ((Go.bits .and .u8 (rd y284 4) 2) == 2))) (fun _ hk => hk.2) (.int .i64 t320)) (fun _ hk => hk.2) (.int .i64 t326)) (fun _ h_ => h_.1))) hb); have n5_ := Aside0.mk (Kd.V_below (by (with_reducible repeat (first | apply Kd.V_alloc | apply Kd.V_drewN | apply Kd.V_drew)); exact (Kd.V_mono (Kd.V_far (p := ⟨gb327, 7, none⟩) (Kd.V_far (p := ⟨gb327, 6, none⟩) (Kd.V_far (p := ⟨gb327, 5, none⟩) (Kd.V_far (p := ⟨gb327, 4, none⟩) (Kd.V_far (p := ⟨gb327, 3, none⟩) (Kd.V_far (p := ⟨gb327, 2, none⟩) (Kd.V_far (p := ⟨gb327, 1, none⟩) (Kd.V_far (p := ⟨gb327, 0, none⟩) (Kd.V_mono HO305.out (fun k_ hk => (⟨hk, hk.2.2⟩ : _ ∧ k_ ≠ gb327))) (fun _ hk => hk.2) (.int .i64 t294)) (fun _ hk => hk.2) (.int .i64 t300)) (fun _ hk => hk.2) (.int .i64 t306)) (fun _ hk => hk.2) (.bool ((Go.bits .and .u8 (rd y284 4) 1) == 1))) (fun _ hk => hk.2) (.int .i64 t314)) (fun _ hk => hk.2) (.bool ((Go.bits .and .u8 (rd y284 4) 2) == 2))) (fun _ hk => hk.2) (.int .i64 t320)) (fun _ hk => hk.2) (.int .i64 t326)) (fun _ h_ => h_.1))) hb); have n6_ := Aside0.mk (Kd.V_below (by (with_reducible repeat (first | apply Kd.V_alloc | apply Kd.V_drewN | apply Kd.V_drew)); exact (Kd.V_mono (Kd.V_far (p := ⟨gb327, 7, none⟩) (Kd.V_far (p := ⟨gb327, 6, none⟩) (Kd.V_far (p := ⟨gb327, 5, none⟩) (Kd.V_far (p := ⟨gb327, 4, none⟩) (Kd.V_far (p := ⟨gb327, 3, none⟩) (Kd.V_far (p := ⟨gb327, 2, none⟩) (Kd.V_far (p := ⟨gb327, 1, none⟩) (Kd.V_far (p := ⟨gb327, 0, none⟩) (Kd.V_mono HO313.out (fun k_ hk => (⟨hk, hk.2.2⟩ : _ ∧ k_ ≠ gb327))) (fun _ hk => hk.2) (.int .i64 t294)) (fun _ hk => hk.2) (.int .i64 t300)) (fun _ hk => hk.2) (.int .i64 t306)) (fun _ hk => hk.2) (.bool ((Go.bits .and .u8 (rd y284 4) 1) == 1))) (fun _ hk => hk.2) (.int .i64 t314)) (fun _ hk => hk.2) (.bool ((Go.bits .and .u8 (rd y284 4) 2) == 2))) (fun _ hk => hk.2) (.int .i64 t320)) (fun _ hk => hk.2) (.int .i64 t326)) (fun _ h_ => h_.1))) hb); have n7_ := Aside0.mk (Kd.V_below (by (with_reducible repeat (first | apply Kd.V_alloc | apply Kd.V_drewN | apply Kd.V_drew)); exact (Kd.V_mono (Kd.V_far (p := ⟨gb327, 7, none⟩) (Kd.V_far (p := ⟨gb327, 6, none⟩) (Kd.V_far (p := ⟨gb327, 5, none⟩) (Kd.V_far (p := ⟨gb327, 4, none⟩) (Kd.V_far (p := ⟨gb327, 3, none⟩) (Kd.V_far (p := ⟨gb327, 2, none⟩) (Kd.V_far (p := ⟨gb327, 1, none⟩) (Kd.V_far (p := ⟨gb327, 0, none⟩) (Kd.V_mono HO319.out (fun k_ hk => (⟨hk, hk.2.2⟩ : _ ∧ k_ ≠ gb327))) (fun _ hk => hk.2) (.int .i64 t294)) (fun _ hk => hk.2) (.int .i64 t300)) (fun _ hk => hk.2) (.int .i64 t306)) (fun _ hk => hk.2) (.bool ((Go.bits .and .u8 (rd y284 4) 1) == 1))) (fun _ hk => hk.2) (.int .i64 t314)) (fun _ hk => hk.2) (.bool ((Go.bits .and .u8 (rd y284 4) 2) == 2))) (fun _ hk => hk.2) (.int .i64 t320)) (fun _ hk => hk.2) (.int .i64 t326)) (fun _ h_ => h_.1))) hb); have n8_ := Aside0.mk (Kd.V_below (by (with_reducible repeat (first | apply Kd.V_alloc | apply Kd.V_drewN | apply Kd.V_drew)); exact (Kd.V_mono (Kd.V_far (p := ⟨gb327, 7, none⟩) (Kd.V_far (p := ⟨gb327, 6, none⟩) (Kd.V_far (p := ⟨gb327, 5, none⟩) (Kd.V_far (p := ⟨gb327, 4, none⟩) (Kd.V_far (p := ⟨gb327, 3, none⟩) (Kd.V_far (p := ⟨gb327, 2, none⟩) (Kd.V_far (p := ⟨gb327, 1, none⟩) (Kd.V_far (p := ⟨gb327, 0, none⟩) (Kd.V_mono HO325.out (fun k_ hk => (⟨hk, hk.2.2⟩ : _ ∧ k_ ≠ gb327))) (fun _ hk => hk.2) (.int .i64 t294)) (fun _ hk => hk.2) (.int .i64 t300)) (fun _ hk => hk.2) (.int .i64 t306)) (fun _ hk => hk.2) (.bool ((Go.bits .and .u8 (rd y284 4) 1) == 1))) (fun _ hk => hk.2) (.int .i64 t314)) (fun _ hk => hk.2) (.bool ((Go.bits .and .u8 (rd y284 4) 2) == 2))) (fun _ hk => hk.2) (.int .i64 t320)) (fun _ hk => hk.2) (.int .i64 t326)) (fun _ h_ => h_.1))) hb); have n9_ := Aside0.mk (blk_below (g := gb327) (o := .cells #[.int .i64 t294, .int .i64 t300, .int .i64 t306, .bool ((Go.bits .and .u8 (rd y284 4) 1) == 1), .int .i64 t314, .bool ((Go.bits .and .u8 (rd y284 4) 2) == 2), .int .i64 t320, .int .i64 t326] 48 (0, 0)) (by (with_reducible repeat (first | refine blk_drewN ?_ _ | refine blk_drew ?_ | refine blk_alloc ?_ _)); refine blk_put (cs := #[.int .i64 t294, .int .i64 t300, .int .i64 t306, .bool ((Go.bits .and .u8 (rd y284 4) 1) == 1), .int .i64 t314, .bool ((Go.bits .and .u8 (rd y284 4) 2) == 2), .int .i64 t320, .int .i64 0]) ?_ 7 _ rfl; (with_reducible repeat (first | refine blk_drewN ?_ _ | refine blk_drew ?_ | refine blk_alloc ?_ _)); refine blk_put (cs := #[.int .i64 t294, .int .i64 t300, .int .i64 t306, .bool ((Go.bits .and .u8 (rd y284 4) 1) == 1), .int .i64 t314, .bool ((Go.bits .and .u8 (rd y284 4) 2) == 2), .int .i64 0, .int .i64 0]) ?_ 6 _ rfl; (with_reducible repeat (first | refine blk_drewN ?_ _ | refine blk_drew ?_ | refine blk_alloc ?_ _)); refine blk_put (cs := #[.int .i64 t294, .int .i64 t300, .int .i64 t306, .bool ((Go.bits .and .u8 (rd y284 4) 1) == 1), .int .i64 t314, .bool false, .int .i64 0, .int .i64 0]) ?_ 5 _ rfl; (with_reducible repeat (first | refine blk_drewN ?_ _ | refine blk_drew ?_ | refine blk_alloc ?_ _)); refine blk_put (cs := #[.int .i64 t294, .int .i64 t300, .int .i64 t306, .bool ((Go.bits .and .u8 (rd y284 4) 1) == 1), .int .i64 0, .bool false, .int .i64 0, .int .i64 0]) ?_ 4 _ rfl; (with_reducible repeat (first | refine blk_drewN ?_ _ | refine blk_drew ?_ | refine blk_alloc ?_ _)); refine blk_put (cs := #[.int .i64 t294, .int .i64 t300, .int .i64 t306, .bool false, .int .i64 0, .bool false, .int .i64 0, .int .i64 0]) ?_ 3 _ rfl; (with_reducible repeat (first | refine blk_drewN ?_ _ | refine blk_drew ?_ | refine blk_alloc ?_ _)); refine blk_put (cs := #[.int .i64 t294, .int .i64 t300, .int .i64 0, .bool false, .int .i64 0, .bool false, .int .i64 0, .int .i64 0]) ?_ 2 _ rfl; (with_reducible repeat (first | refine blk_drewN ?_ _ | refine blk_drew ?_ | refine blk_alloc ?_ _)); refine blk_put (cs := #[.int .i64 t294, .int .i64 0, .int .i64 0, .bool false, .int .i64 0, .bool false, .int .i64 0, .int .i64 0]) ?_ 1 _ rfl; (with_reducible repeat (first | refine blk_drewN ?_ _ | refine blk_drew ?_ | refine blk_alloc ?_ _)); refine blk_put (cs := #[.int .i64 0, .int .i64 0, .int .i64 0, .bool false, .int .i64 0, .bool false, .int .i64 0, .int .i64 0]) ?_ 0 _ rfl; (with_reducible repeat (first | refine blk_drewN ?_ _ | refine blk_drew ?_ | refine blk_alloc ?_ _)); exact BK327.out) hb); have n10_ := Aside0.mk (below_step (by repeat (first | (with_reducible first | exact HB.out | apply below_alloc | apply pw_below_drewN | apply below_drew1 | refine below_set ?_ GE327.out) | exact HB.out)) hb); clear HO_0; clear HO_3; clear HO288; clear HO293; clear HO299; clear HO305; clear HO313; clear HO319; clear HO325; clear BK327; clear HB; have HO_0 := n0_; have HO_3 := n1_; have HO288 := n2_; have HO293 := n3_; have HO299 := n4_; have HO305 := n5_; have HO313 := n6_; have HO319 := n7_; have HO325 := n8_; have BK327 := n9_; have HB := n10_; clear n0_ n1_ n2_ n3_ n4_ n5_ n6_ n7_ n8_ n9_ n10_; (try clear hb); (try clear hb2); (try clear hk); (try clear hi); obtain ⟨hcz74_0, hcz74_1, hcz74_2, hcz74_3, hcz74_4, hcz74_5, hcz74_6, hcz74_7, hfz74_0, hfz74_1, hfz74_2, hfz74_3, hfz74_4, hfz74_5, hfz74_6, hfz74_7⟩ := Go.Proofs.Ythagppmaofcllaa.Lv.blks8 BK327.out) | (go_at_call 84; (with_reducible refine (impl_Rec_pack.calls k1 t294 t300 t306 ((Go.bits .and .u8 (rd y284 4) 1) == 1) t314 ((Go.bits .and .u8 (rd y284 4) 2) == 2) t320 t326 t329 _ A21.out).mono ?_); rintro e w75 ⟨v330, rfl, ho0, hb⟩; have n0_ := Aside0.mk (Kd.V_elder' (by (with_reducible repeat (first | apply Kd.V_alloc | apply Kd.V_drewN | apply Kd.V_drew)); exact HO_0.out) (Kd.R_base ho0) hb); have n1_ := Aside0.mk (Kd.R_below (by (with_reducible repeat (first | apply Kd.R_alloc | apply Kd.R_drewN | apply Kd.R_drew)); exact HO_3.out) hb); have n2_ := Aside0.mk (Kd.V_elder' (by (with_reducible repeat (first | apply Kd.V_alloc | apply Kd.V_drewN | apply Kd.V_drew)); exact HO288.out) (Kd.R_base ho0) hb); have n3_ := Aside0.mk (Kd.V_elder' (by (with_reducible repeat (first | apply Kd.V_alloc | apply Kd.V_drewN | apply Kd.V_drew)); exact HO293.out) (Kd.R_base ho0) hb); have n4_ := Aside0.mk (Kd.V_elder' (by (with_reducible repeat (first | apply Kd.V_alloc | apply Kd.V_drewN | apply Kd.V_drew)); exact HO299.out) (Kd.R_base ho0) hb); have n5_ := Aside0.mk (Kd.V_elder' (by (with_reducible repeat (first | apply Kd.V_alloc | apply Kd.V_drewN | apply Kd.V_drew)); exact HO305.out) (Kd.R_base ho0) hb); have n6_ := Aside0.mk (Kd.V_elder' (by (with_reducible repeat (first | apply Kd.V_alloc | apply Kd.V_drewN | apply Kd.V_drew)); exact HO313.out) (Kd.R_base ho0) hb); have n7_ := Aside0.mk (Kd.V_elder' (by (with_reducible repeat (first | apply Kd.V_alloc | apply Kd.V_drewN | apply Kd.V_drew)); exact HO319.out) (Kd.R_base ho0) hb); have n8_ := Aside0.mk (Kd.V_elder' (by (with_reducible repeat (first | apply Kd.V_alloc | apply Kd.V_drewN | apply Kd.V_drew)); exact HO325.out) (Kd.R_base ho0) hb); have n9_ := Aside0.mk (Kd.R_lower (Kd.R_newM (M := fun k_ => (w.heap.size ≤ k_)) ho0 (below_size (by repeat (first | (with_reducible first | exact HB.out | apply below_alloc | apply pw_below_drewN | apply below_drew1 | refine below_set ?_ GE327.out) | exact HB.out))) (fun k_ h_ => h_)) (below_size (by repeat (first | (with_reducible first | exact HB.out | apply below_alloc | apply pw_below_drewN | apply below_drew1 | refine below_set ?_ GE327.out) | exact HB.out)))); have n10_ := Aside0.mk (blk_below (g := gb327) (o := .cells #[.int .i64 t294, .int .i64 t300, .int .i64 t306, .bool ((Go.bits .and .u8 (rd y284 4) 1) == 1), .int .i64 t314, .bool ((Go.bits .and .u8 (rd y284 4) 2) == 2), .int .i64 t320, .int .i64 t326] 48 (0, 0)) (by (with_reducible repeat (first | refine blk_drewN ?_ _ | refine blk_drew ?_ | refine blk_alloc ?_ _)); exact BK327.out) hb); have n11_ := Aside0.mk (below_step (by repeat (first | (with_reducible first | exact HB.out | apply below_alloc | apply pw_below_drewN | apply below_drew1 | refine below_set ?_ GE327.out) | exact HB.out)) hb); clear HO_0; clear HO_3; clear HO288; clear HO293; clear HO299; clear HO305; clear HO313; clear HO319; clear HO325; clear BK327; clear HB; have HO_0 := n0_; have HO_3 := n1_; have HO288 := n2_; have HO293 := n3_; have HO299 := n4_; have HO305 := n5_; have HO313 := n6_; have HO319 := n7_; have HO325 := n8_; have HO331 := n9_; have BK327 := n10_; have HB := n11_; clear n0_ n1_ n2_ n3_ n4_ n5_ n6_ n7_ n8_ n9_ n10_ n11_; (try clear hb); (try clear hb2); (try clear hk); (try clear hi); (try clear ho0); obtain ⟨Ao76, co76, eo76⟩ := Kd.R_slice HO331.out; subst eo76) | (go_at_call 83; (with_reducible refine (slices_Equal_byte.calls k1 _ _ t329 _ _ y284 false _ ?side1 ?side2 ?side3 ?side4 A22.out).mono ?_); (case side1 => repeat (first | exact (Kd.R_reads' HO331.out).2.2 | (with_reducible refine Kd.C_alloc ?_ _) | (with_reducible refine Kd.C_drewN ?_ _) | (with_reducible refine Kd.C_drew ?_))); (case side2 => exact (Kd.R_reads' HO331.out).2.1); (case side3 => repeat (first | exact (Kd.V_reads' HO288.out).2.2 | (with_reducible refine Kd.C_alloc ?_ _) | (with_reducible refine Kd.C_drewN ?_ _) | (with_reducible refine Kd.C_drew ?_))); (case side4 => exact (Kd.V_reads' HO288.out).2.1); rintro e w' ⟨rfl, ⟨nd, rfl⟩⟩))
              go_ret
              exact ⟨_, by first | rfl | (simp [errW_none, errW_some] <;> rfl) | (simp [*, errW_none, errW_some] <;> rfl), by (with_reducible repeat (first | apply Kd.R_alloc | apply Kd.R_drewN | apply Kd.R_drew)); exact Kd.R_mono HO_3.out (fun _ hk => hk.1), by repeat (first | (with_reducible first | exact HB.out | apply below_alloc | apply pw_below_drewN | apply below_drew1 | refine below_set ?_ GE327.out) | exact HB.out)⟩
            ·rw [if_neg c20] at H
             have c20b0 : (t328 == 0) = false := beq_eq_false_iff_ne.mpr c20
             have c20b1 : (t328 != 0) = true := bne_iff_ne.mpr c20
             obtain rfl := Option.some.inj H
             obtain ⟨hcz96_0, hcz96_1, hcz96_2, hcz96_3, hcz96_4, hcz96_5, hcz96_6, hcz96_7, hfz96_0, hfz96_1, hfz96_2, hfz96_3, hfz96_4, hfz96_5, hfz96_6, hfz96_7⟩ := Go.Proofs.Ythagppmaofcllaa.Lv.blks8 BK327.out
             try go_wp2_with (first | ((with_reducible refine gate_callee (f := 82) rfl ?_); refine goesL_ (some 44) rfl rfl Try.func82 (by kernel_rfl) rfl #[.agg #[.int .i64 t294, .int .i64 t300, .int .i64 t306, .bool ((Go.bits .and .u8 (rd y284 4) 1) == 1), .int .i64 t314, .bool ((Go.bits .and .u8 (rd y284 4) 2) == 2), .int .i64 t320, .int .i64 t326]] rfl (by (try simp only [List.map_toArray, List.map_cons, List.map_nil]); first | done | rfl | (simp only [List.length_drop, List.length_take]; rfl)) ?_; (with_reducible refine (impl_RecFault.calls k1 t294 t300 t306 ((Go.bits .and .u8 (rd y284 4) 1) == 1) t314 ((Go.bits .and .u8 (rd y284 4) 2) == 2) t320 t326 t328 _ A19.out).mono ?_); rintro e w97 ⟨rfl, hb⟩; refine ⟨_, rfl, ?_⟩; have n0_ := Aside0.mk (Kd.V_below (by (with_reducible repeat (first | apply Kd.V_alloc | apply Kd.V_drewN | apply Kd.V_drew)); exact (Kd.V_mono (Kd.V_far (p := ⟨gb327, 7, none⟩) (Kd.V_far (p := ⟨gb327, 6, none⟩) (Kd.V_far (p := ⟨gb327, 5, none⟩) (Kd.V_far (p := ⟨gb327, 4, none⟩) (Kd.V_far (p := ⟨gb327, 3, none⟩) (Kd.V_far (p := ⟨gb327, 2, none⟩) (Kd.V_far (p := ⟨gb327, 1, none⟩) (Kd.V_far (p := ⟨gb327, 0, none⟩) (Kd.V_mono HO_0.out (fun k_ hk => (⟨hk, hk.2.2⟩ : _ ∧ k_ ≠ gb327))) (fun _ hk => hk.2) (.int .i64 t294)) (fun _ hk => hk.2) (.int .i64 t300)) (fun _ hk => hk.2) (.int .i64 t306)) (fun _ hk => hk.2) (.bool ((Go.bits .and .u8 (rd y284 4) 1) == 1))) (fun _ hk => hk.2) (.int .i64 t314)) (fun _ hk => hk.2) (.bool ((Go.bits .and .u8 (rd y284 4) 2) == 2))) (fun _ hk => hk.2) (.int .i64 t320)) (fun _ hk => hk.2) (.int .i64 t326)) (fun _ h_ => h_.1))) hb); have n1_ := Aside0.mk (Kd.R_below (by (with_reducible repeat (first | apply Kd.R_alloc | apply Kd.R_drewN | apply Kd.R_drew)); exact (Kd.R_mono (Kd.R_far (p := ⟨gb327, 7, none⟩) (Kd.R_far (p := ⟨gb327, 6, none⟩) (Kd.R_far (p := ⟨gb327, 5, none⟩) (Kd.R_far (p := ⟨gb327, 4, none⟩) (Kd.R_far (p := ⟨gb327, 3, none⟩) (Kd.R_far (p := ⟨gb327, 2, none⟩) (Kd.R_far (p := ⟨gb327, 1, none⟩) (Kd.R_far (p := ⟨gb327, 0, none⟩) (Kd.R_mono HO_3.out (fun k_ hk => (⟨hk, hk.2⟩ : _ ∧ k_ ≠ gb327))) (fun _ hk => hk.2) (.int .i64 t294)) (fun _ hk => hk.2) (.int .i64 t300)) (fun _ hk => hk.2) (.int .i64 t306)) (fun _ hk => hk.2) (.bool ((Go.bits .and .u8 (rd y284 4) 1) == 1))) (fun _ hk => hk.2) (.int .i64 t314)) (fun _ hk => hk.2) (.bool ((Go.bits .and .u8 (rd y284 4) 2) == 2))) (fun _ hk => hk.2) (.int .i64 t320)) (fun _ hk => hk.2) (.int .i64 t326)) (fun _ h_ => h_.1))) hb); have n2_ := Aside0.mk (Kd.V_below (by (with_reducible repeat (first | apply Kd.V_alloc | apply Kd.V_drewN | apply Kd.V_drew)); exact (Kd.V_mono (Kd.V_far (p := ⟨gb327, 7, none⟩) (Kd.V_far (p := ⟨gb327, 6, none⟩) (Kd.V_far (p := ⟨gb327, 5, none⟩) (Kd.V_far (p := ⟨gb327, 4, none⟩) (Kd.V_far (p := ⟨gb327, 3, none⟩) (Kd.V_far (p := ⟨gb327, 2, none⟩) (Kd.V_far (p := ⟨gb327, 1, none⟩) (Kd.V_far (p := ⟨gb327, 0, none⟩) (Kd.V_mono HO288.out (fun k_ hk => (⟨hk, hk.2.2⟩ : _ ∧ k_ ≠ gb327))) (fun _ hk => hk.2) (.int .i64 t294)) (fun _ hk => hk.2) (.int .i64 t300)) (fun _ hk => hk.2) (.int .i64 t306)) (fun _ hk => hk.2) (.bool ((Go.bits .and .u8 (rd y284 4) 1) == 1))) (fun _ hk => hk.2) (.int .i64 t314)) (fun _ hk => hk.2) (.bool ((Go.bits .and .u8 (rd y284 4) 2) == 2))) (fun _ hk => hk.2) (.int .i64 t320)) (fun _ hk => hk.2) (.int .i64 t326)) (fun _ h_ => h_.1))) hb); have n3_ := Aside0.mk (Kd.V_below (by (with_reducible repeat (first | apply Kd.V_alloc | apply Kd.V_drewN | apply Kd.V_drew)); exact (Kd.V_mono (Kd.V_far (p := ⟨gb327, 7, none⟩) (Kd.V_far (p := ⟨gb327, 6, none⟩) (Kd.V_far (p := ⟨gb327, 5, none⟩) (Kd.V_far (p := ⟨gb327, 4, none⟩) (Kd.V_far (p := ⟨gb327, 3, none⟩) (Kd.V_far (p := ⟨gb327, 2, none⟩) (Kd.V_far (p := ⟨gb327, 1, none⟩) (Kd.V_far (p := ⟨gb327, 0, none⟩) (Kd.V_mono HO293.out (fun k_ hk => (⟨hk, hk.2.2⟩ : _ ∧ k_ ≠ gb327))) (fun _ hk => hk.2) (.int .i64 t294)) (fun _ hk => hk.2) (.int .i64 t300)) (fun _ hk => hk.2) (.int .i64 t306)) (fun _ hk => hk.2) (.bool ((Go.bits .and .u8 (rd y284 4) 1) == 1))) (fun _ hk => hk.2) (.int .i64 t314)) (fun _ hk => hk.2) (.bool ((Go.bits .and .u8 (rd y284 4) 2) == 2))) (fun _ hk => hk.2) (.int .i64 t320)) (fun _ hk => hk.2) (.int .i64 t326)) (fun _ h_ => h_.1))) hb); have n4_ := Aside0.mk (Kd.V_below (by (with_reducible repeat (first | apply Kd.V_alloc | apply Kd.V_drewN | apply Kd.V_drew)); exact (Kd.V_mono (Kd.V_far (p := ⟨gb327, 7, none⟩) (Kd.V_far (p := ⟨gb327, 6, none⟩) (Kd.V_far (p := ⟨gb327, 5, none⟩) (Kd.V_far (p := ⟨gb327, 4, none⟩) (Kd.V_far (p := ⟨gb327, 3, none⟩) (Kd.V_far (p := ⟨gb327, 2, none⟩) (Kd.V_far (p := ⟨gb327, 1, none⟩) (Kd.V_far (p := ⟨gb327, 0, none⟩) (Kd.V_mono HO299.out (fun k_ hk => (⟨hk, hk.2.2⟩ : _ ∧ k_ ≠ gb327))) (fun _ hk => hk.2) (.int .i64 t294)) (fun _ hk => hk.2) (.int .i64 t300)) (fun _ hk => hk.2) (.int .i64 t306)) (fun _ hk => hk.2) (.bool ((Go.bits .and .u8 (rd y284 4) 1) == 1))) (fun _ hk => hk.2) (.int .i64 t314)) (fun _ hk => hk.2) (.bool ((Go.bits .and .u8 (rd y284 4) 2) == 2))) (fun _ hk => hk.2) (.int .i64 t320)) (fun _ hk => hk.2) (.int .i64 t326)) (fun _ h_ => h_.1))) hb); have n5_ := Aside0.mk (Kd.V_below (by (with_reducible repeat (first | apply Kd.V_alloc | apply Kd.V_drewN | apply Kd.V_drew)); exact (Kd.V_mono (Kd.V_far (p := ⟨gb327, 7, none⟩) (Kd.V_far (p := ⟨gb327, 6, none⟩) (Kd.V_far (p := ⟨gb327, 5, none⟩) (Kd.V_far (p := ⟨gb327, 4, none⟩) (Kd.V_far (p := ⟨gb327, 3, none⟩) (Kd.V_far (p := ⟨gb327, 2, none⟩) (Kd.V_far (p := ⟨gb327, 1, none⟩) (Kd.V_far (p := ⟨gb327, 0, none⟩) (Kd.V_mono HO305.out (fun k_ hk => (⟨hk, hk.2.2⟩ : _ ∧ k_ ≠ gb327))) (fun _ hk => hk.2) (.int .i64 t294)) (fun _ hk => hk.2) (.int .i64 t300)) (fun _ hk => hk.2) (.int .i64 t306)) (fun _ hk => hk.2) (.bool ((Go.bits .and .u8 (rd y284 4) 1) == 1))) (fun _ hk => hk.2) (.int .i64 t314)) (fun _ hk => hk.2) (.bool ((Go.bits .and .u8 (rd y284 4) 2) == 2))) (fun _ hk => hk.2) (.int .i64 t320)) (fun _ hk => hk.2) (.int .i64 t326)) (fun _ h_ => h_.1))) hb); have n6_ := Aside0.mk (Kd.V_below (by (with_reducible repeat (first | apply Kd.V_alloc | apply Kd.V_drewN | apply Kd.V_drew)); exact (Kd.V_mono (Kd.V_far (p := ⟨gb327, 7, none⟩) (Kd.V_far (p := ⟨gb327, 6, none⟩) (Kd.V_far (p := ⟨gb327, 5, none⟩) (Kd.V_far (p := ⟨gb327, 4, none⟩) (Kd.V_far (p := ⟨gb327, 3, none⟩) (Kd.V_far (p := ⟨gb327, 2, none⟩) (Kd.V_far (p := ⟨gb327, 1, none⟩) (Kd.V_far (p := ⟨gb327, 0, none⟩) (Kd.V_mono HO313.out (fun k_ hk => (⟨hk, hk.2.2⟩ : _ ∧ k_ ≠ gb327))) (fun _ hk => hk.2) (.int .i64 t294)) (fun _ hk => hk.2) (.int .i64 t300)) (fun _ hk => hk.2) (.int .i64 t306)) (fun _ hk => hk.2) (.bool ((Go.bits .and .u8 (rd y284 4) 1) == 1))) (fun _ hk => hk.2) (.int .i64 t314)) (fun _ hk => hk.2) (.bool ((Go.bits .and .u8 (rd y284 4) 2) == 2))) (fun _ hk => hk.2) (.int .i64 t320)) (fun _ hk => hk.2) (.int .i64 t326)) (fun _ h_ => h_.1))) hb); have n7_ := Aside0.mk (Kd.V_below (by (with_reducible repeat (first | apply Kd.V_alloc | apply Kd.V_drewN | apply Kd.V_drew)); exact (Kd.V_mono (Kd.V_far (p := ⟨gb327, 7, none⟩) (Kd.V_far (p := ⟨gb327, 6, none⟩) (Kd.V_far (p := ⟨gb327, 5, none⟩) (Kd.V_far (p := ⟨gb327, 4, none⟩) (Kd.V_far (p := ⟨gb327, 3, none⟩) (Kd.V_far (p := ⟨gb327, 2, none⟩) (Kd.V_far (p := ⟨gb327, 1, none⟩) (Kd.V_far (p := ⟨gb327, 0, none⟩) (Kd.V_mono HO319.out (fun k_ hk => (⟨hk, hk.2.2⟩ : _ ∧ k_ ≠ gb327))) (fun _ hk => hk.2) (.int .i64 t294)) (fun _ hk => hk.2) (.int .i64 t300)) (fun _ hk => hk.2) (.int .i64 t306)) (fun _ hk => hk.2) (.bool ((Go.bits .and .u8 (rd y284 4) 1) == 1))) (fun _ hk => hk.2) (.int .i64 t314)) (fun _ hk => hk.2) (.bool ((Go.bits .and .u8 (rd y284 4) 2) == 2))) (fun _ hk => hk.2) (.int .i64 t320)) (fun _ hk => hk.2) (.int .i64 t326)) (fun _ h_ => h_.1))) hb); have n8_ := Aside0.mk (Kd.V_below (by (with_reducible repeat (first | apply Kd.V_alloc | apply Kd.V_drewN | apply Kd.V_drew)); exact (Kd.V_mono (Kd.V_far (p := ⟨gb327, 7, none⟩) (Kd.V_far (p := ⟨gb327, 6, none⟩) (Kd.V_far (p := ⟨gb327, 5, none⟩) (Kd.V_far (p := ⟨gb327, 4, none⟩) (Kd.V_far (p := ⟨gb327, 3, none⟩) (Kd.V_far (p := ⟨gb327, 2, none⟩) (Kd.V_far (p := ⟨gb327, 1, none⟩) (Kd.V_far (p := ⟨gb327, 0, none⟩) (Kd.V_mono HO325.out (fun k_ hk => (⟨hk, hk.2.2⟩ : _ ∧ k_ ≠ gb327))) (fun _ hk => hk.2) (.int .i64 t294)) (fun _ hk => hk.2) (.int .i64 t300)) (fun _ hk => hk.2) (.int .i64 t306)) (fun _ hk => hk.2) (.bool ((Go.bits .and .u8 (rd y284 4) 1) == 1))) (fun _ hk => hk.2) (.int .i64 t314)) (fun _ hk => hk.2) (.bool ((Go.bits .and .u8 (rd y284 4) 2) == 2))) (fun _ hk => hk.2) (.int .i64 t320)) (fun _ hk => hk.2) (.int .i64 t326)) (fun _ h_ => h_.1))) hb); have n9_ := Aside0.mk (blk_below (g := gb327) (o := .cells #[.int .i64 t294, .int .i64 t300, .int .i64 t306, .bool ((Go.bits .and .u8 (rd y284 4) 1) == 1), .int .i64 t314, .bool ((Go.bits .and .u8 (rd y284 4) 2) == 2), .int .i64 t320, .int .i64 t326] 48 (0, 0)) (by (with_reducible repeat (first | refine blk_drewN ?_ _ | refine blk_drew ?_ | refine blk_alloc ?_ _)); refine blk_put (cs := #[.int .i64 t294, .int .i64 t300, .int .i64 t306, .bool ((Go.bits .and .u8 (rd y284 4) 1) == 1), .int .i64 t314, .bool ((Go.bits .and .u8 (rd y284 4) 2) == 2), .int .i64 t320, .int .i64 0]) ?_ 7 _ rfl; (with_reducible repeat (first | refine blk_drewN ?_ _ | refine blk_drew ?_ | refine blk_alloc ?_ _)); refine blk_put (cs := #[.int .i64 t294, .int .i64 t300, .int .i64 t306, .bool ((Go.bits .and .u8 (rd y284 4) 1) == 1), .int .i64 t314, .bool ((Go.bits .and .u8 (rd y284 4) 2) == 2), .int .i64 0, .int .i64 0]) ?_ 6 _ rfl; (with_reducible repeat (first | refine blk_drewN ?_ _ | refine blk_drew ?_ | refine blk_alloc ?_ _)); refine blk_put (cs := #[.int .i64 t294, .int .i64 t300, .int .i64 t306, .bool ((Go.bits .and .u8 (rd y284 4) 1) == 1), .int .i64 t314, .bool false, .int .i64 0, .int .i64 0]) ?_ 5 _ rfl; (with_reducible repeat (first | refine blk_drewN ?_ _ | refine blk_drew ?_ | refine blk_alloc ?_ _)); refine blk_put (cs := #[.int .i64 t294, .int .i64 t300, .int .i64 t306, .bool ((Go.bits .and .u8 (rd y284 4) 1) == 1), .int .i64 0, .bool false, .int .i64 0, .int .i64 0]) ?_ 4 _ rfl; (with_reducible repeat (first | refine blk_drewN ?_ _ | refine blk_drew ?_ | refine blk_alloc ?_ _)); refine blk_put (cs := #[.int .i64 t294, .int .i64 t300, .int .i64 t306, .bool false, .int .i64 0, .bool false, .int .i64 0, .int .i64 0]) ?_ 3 _ rfl; (with_reducible repeat (first | refine blk_drewN ?_ _ | refine blk_drew ?_ | refine blk_alloc ?_ _)); refine blk_put (cs := #[.int .i64 t294, .int .i64 t300, .int .i64 0, .bool false, .int .i64 0, .bool false, .int .i64 0, .int .i64 0]) ?_ 2 _ rfl; (with_reducible repeat (first | refine blk_drewN ?_ _ | refine blk_drew ?_ | refine blk_alloc ?_ _)); refine blk_put (cs := #[.int .i64 t294, .int .i64 0, .int .i64 0, .bool false, .int .i64 0, .bool false, .int .i64 0, .int .i64 0]) ?_ 1 _ rfl; (with_reducible repeat (first | refine blk_drewN ?_ _ | refine blk_drew ?_ | refine blk_alloc ?_ _)); refine blk_put (cs := #[.int .i64 0, .int .i64 0, .int .i64 0, .bool false, .int .i64 0, .bool false, .int .i64 0, .int .i64 0]) ?_ 0 _ rfl; (with_reducible repeat (first | refine blk_drewN ?_ _ | refine blk_drew ?_ | refine blk_alloc ?_ _)); exact BK327.out) hb); have n10_ := Aside0.mk (below_step (by repeat (first | (with_reducible first | exact HB.out | apply below_alloc | apply pw_below_drewN | apply below_drew1 | refine below_set ?_ GE327.out) | exact HB.out)) hb); clear HO_0; clear HO_3; clear HO288; clear HO293; clear HO299; clear HO305; clear HO313; clear HO319; clear HO325; clear BK327; clear HB; have HO_0 := n0_; have HO_3 := n1_; have HO288 := n2_; have HO293 := n3_; have HO299 := n4_; have HO305 := n5_; have HO313 := n6_; have HO319 := n7_; have HO325 := n8_; have BK327 := n9_; have HB := n10_; clear n0_ n1_ n2_ n3_ n4_ n5_ n6_ n7_ n8_ n9_ n10_; (try clear hb); (try clear hb2); (try clear hk); (try clear hi)))
             go_ret
             exact ⟨_, by first | rfl | (simp [errW_none, errW_some] <;> rfl) | (simp [*, errW_none, errW_some] <;> rfl), by (with_reducible repeat (first | apply Kd.R_alloc | apply Kd.R_drewN | apply Kd.R_drew)); exact Kd.R_mono HO_3.out (fun _ hk => hk.1), by repeat (first | (with_reducible first | exact HB.out | apply below_alloc | apply pw_below_drewN | apply below_drew1 | refine below_set ?_ GE327.out) | exact HB.out)⟩
           ·rw [if_neg c17] at H
            exact absurd H (by simp)
          ·rw [if_neg c15] at H
           exact absurd H (by simp)
         ·rw [if_neg c13] at H
          exact absurd H (by simp)
        ·rw [if_neg c12] at H
         exact absurd H (by simp)
       ·rw [if_neg c10] at H
        exact absurd H (by simp)
      ·rw [if_neg c8] at H
       exact absurd H (by simp)
     ·rw [if_neg c6] at H
      exact absurd H (by simp)
    ·rw [if_neg c5] at H
     exact absurd H (by simp)
   ·rw [if_neg c4] at H
    have c4b0 : decide (13 ≤ (x0_1.length : Int)) = false := decide_eq_false c4
    have c4b1 : decide (13 ≤ x0_1.length) = false := decide_eq_false (by omega)
    clear c4
    obtain rfl := Option.some.inj H
    obtain ⟨Ao98, co98, eo98⟩ := Kd.V_slice HO_0.out
    subst eo98
    go_wp2
    go_ret
    exact ⟨_, by first | rfl | (simp [errW_none, errW_some] <;> rfl) | (simp [*, errW_none, errW_some] <;> rfl), by (with_reducible repeat (first | apply Kd.R_alloc | apply Kd.R_drewN | apply Kd.R_drew)); exact HO_3.out, by repeat (first | (with_reducible first | exact HB.out | apply below_alloc | apply pw_below_drewN | apply below_drew1) | exact HB.out)⟩

end Go.Proofs.Ythagppmaofcllaa.P
