import Derived.Test.YthagppmaofcllaaZz
import Derived.Test.YthagppmaofcllaaP0
import Derived.Test.YthagppmaofcllaaPCadefgh4
import Derived.Test.YthagppmaofcllaaPCaefgh0
import Derived.Test.YthagppmaofcllaaPCall1
import Derived.Test.YthagppmaofcllaaPCefg0
import Derived.Test.YthagppmaofcllaaPDadefgh0
import Derived.Test.YthagppmaofcllaaPDall0
import Derived.Test.YthagppmaofcllaaPDm0
import Derived.Test.YthagppmaofcllaaPDm1
import Derived.Test.YthagppmaofcllaaWGuard
import Derived.Test.YthagppmaofcllaaWRepsOne
import Derived.Test.YthagppmaofcllaaWTab
import Derived.Test.YthagppmaofcllaaLv
namespace Go.Proofs.Ythagppmaofcllaa.P
open Go.RowKit Go.Proofs.YthagppmaofcllaaW.PrintWords Go.Proofs.YthagppmaofcllaaW.PrintLast Go.Proofs.YthagppmaofcllaaW.PrintMore
attribute [local go_sem] max2_int min2_int max_two min_two max_three min_three max_four min_four   -- for this text's walks alone
set_option linter.unusedVariables false
set_option linter.unusedSimpArgs false
theorem yo0 {p : Prop} (h : p := by first | exact hk.1.1.1.2 | (rw [← show _ from (by cases Ao31 <;> rfl : (.slice Ao31 t56.length co31 : Value).ownBlock = (.slice Ao31 y55.length co31 : Value).ownBlock)]; exact hk.1.1.1.2)) : p := h
theorem yo1 {p : Prop} (h : p := by (with_reducible repeat (first | apply Kd.N_alloc | apply Kd.N_drewN | apply Kd.N_drew)); exact HO60.out) : p := h
theorem yo2 {p : Prop} (h : p := by rw [hg]; exact Nat.ne_of_lt (Ql (g := gb53) (o := .cells #[.slice A0_0 l0_0.length c0_0, .slice A0_1 l0_1.length c0_1] 27 (0, 0)) zk)) : p := h
theorem yo3 {p : Prop} (h : p := by rw [hg]; exact Nat.ne_of_gt (Ql (g := gb53) (o := .cells #[.slice A0_0 l0_0.length c0_0, .slice A0_1 l0_1.length c0_1] 27 (0, 0)) zk)) : p := h
theorem yo4 {p : Prop} (h : p := by first | (go_simp; done) | (go_simp; rfl)) : p := h
def ZiCrashLog.T6 : Bool × List (List Nat × List Nat) := (true, [([], []), ([0], [0]), ([], []), ([2], [2]), ([], []), ([3, 4], [3, 4]), ([1, 5], [1, 5]), ([6], [6]), ([7, 7, 0, 1, 2, 3, 4, 5, 6, 7], [7])])
def ZiCrashLog.B6 : List Nat := [0, 1, 0, 4, 0, 28, 63, 127, 255]
theorem ZiCrashLog.tab6 : rtab .any (opsOf Try.f43 6) = ZiCrashLog.T6 := by kernel_rfl
theorem ZiCrashLog.bits6 : waitsOk ZiCrashLog.T6.2 ZiCrashLog.B6 = true := by kernel_rfl
set_option maxHeartbeats 8000000 in
set_option maxRecDepth 100000 in
theorem ZiCrashLog.calls (k : Nat) (P0_0_ : Nat → Prop) (A0_0 : Option Addr) (c0_0 : Nat) (l0_0 : List Int) (P0_1_ : Nat → Prop) (A0_1 : Option Addr) (c0_1 : Nat) (l0_1 : List Int) (a1 : Int) (r1 : Int) (r2 : Int) (r3 : List Int) (r4 : List Int) (w : World) (hs0_0 : Kd.V (Kd.int .u8) 5 w w.heap.size (fun k_ => P0_0_ k_) (.slice A0_0 l0_0.length c0_0) l0_0) (hs0_1 : Kd.V (Kd.int .u8) 5 w w.heap.size (fun k_ => P0_1_ k_) (.slice A0_1 l0_1.length c0_1) l0_1) (h : ZiCrashLog.f k l0_0 l0_1 a1 = some (r1, r2, r3, r4)) :
 Calls Try.prog 43 #[.agg #[.slice A0_0 l0_0.length c0_0, .slice A0_1 l0_1.length c0_1], .int .i64 a1] w fun e w' => ∃ v2_ v3_ : Value, e = .returned (.agg #[.int .i64 r1, .int .i64 r2, v2_, v3_]) ∧ Kd.R (Kd.int .u8) 5 w' w.heap.size (fun k_ => (w.heap.size ≤ k_) ∧ some k_ ≠ (v3_ : Value).ownBlock) v2_ r3 ∧ Kd.R (Kd.int .u8) 5 w' w.heap.size (fun k_ => (w.heap.size ≤ k_) ∧ some k_ ≠ (v2_ : Value).ownBlock) v3_ r4 ∧ Below w.heap.size w w' := by
 have hu27 := Try.underlying27
 have hu59 := Try.underlying59
 have HO0_0 := Qz.mk (show Kd.V (Kd.int .u8) 5 w w.heap.size (fun k_ => ((P0_0_ k_ ∨ P0_1_ k_) ∨ w.heap.size ≤ k_)) (.slice A0_0 l0_0.length c0_0) l0_0 from Kd.Qae hs0_0 (fun k_ hk => .inl (.inl hk)))
 have HO0_1 := Qz.mk (show Kd.V (Kd.int .u8) 5 w w.heap.size (fun k_ => ((P0_0_ k_ ∨ P0_1_ k_) ∨ w.heap.size ≤ k_)) (.slice A0_1 l0_1.length c0_1) l0_1 from Kd.Qae hs0_1 (fun k_ hk => .inl (.inr hk)))
 have HB := Qz.mk (Below.refl w.heap.size w)
 have H : ((ZiLogFault.f k l0_0 l0_1).bind fun t63 => (if t63 = 0 then ((Ziwithin.f a1 0 (l0_1.length : Int)).bind fun t69 => (ZiCrashLog.j0 k a1 t63 (!t69) l0_0 l0_1)) else (ZiCrashLog.j0 k a1 t63 false l0_0 l0_1))) = some (r1, r2, r3, r4) := h
 clear h
 replace H := Option.bind_eq_some_iff.mp H
 obtain ⟨t63, A30, H⟩ := H
 replace H : (if t63 = 0 then ((Ziwithin.f a1 0 (l0_1.length : Int)).bind fun t69 => (ZiCrashLog.j0 k a1 t63 (!t69) l0_0 l0_1)) else (ZiCrashLog.j0 k a1 t63 false l0_0 l0_1)) = some (r1, r2, r3, r4) := H
 have A3 := Qz.mk A30
 clear A30
 have HC4 := Qz.mk H
 clear H
 go_enter Try.func43, Try.ntmps43
 go_upto_region 2 with (first | ((with_reducible refine gate_dst (N := 2) rfl ?_); (try (refine gate_guard (by rfl) ?_; dsimp only)); refine box_event ?hg (N := 2) ?hd (cs := #[.slice A0_0 l0_0.length c0_0, .slice A0_1 l0_1.length c0_1]) (t := 27) ?hr ?_; (case hd => rfl); (case hg => rfl); (case hr => exact yo4); intro gb53 hg w5 hbox hb; have n0_ := Qz.mk (Kd.Qaf (Kd.Qag (zv HO0_0) gb53 (Nat.le_of_eq hg.symm)) hb); have n1_ := Qz.mk (Kd.Qaf (Kd.Qag (zv HO0_1) gb53 (Nat.le_of_eq hg.symm)) hb); have n2_ := Qz.mk (Qq zb hb); have n3_ := Qz.mk (hbox); have n4_ := Qz.mk ((zh hg : w.heap.size ≤ gb53)); have n5_ := n4_; clear HO0_0; clear HO0_1; clear HB; have HO0_0 := n0_; have HO0_1 := n1_; have HB := n2_; have BK53 := n3_; have GW53 := n4_; have GE53 := n5_; clear n0_ n1_ n2_ n3_ n4_ n5_; clear hb hbox hg) | ((with_reducible refine gate_dst (N := 4) rfl ?_); (try (refine gate_guard (by rfl) ?_; dsimp only)); refine box_event ?hg (N := 4) ?hd (cs := #[.int .i64 0, .int .i64 0, .slice none 0 0, .slice none 0 0]) (t := 59) ?hr ?_; (case hd => rfl); (case hg => rfl); (case hr => exact yo4); intro gb52 hg w6 hbox hb; have n0_ := Qz.mk (Kd.Qaf (Kd.Qag (zv HO0_0) gb52 (Nat.le_of_eq hg.symm)) hb); have n1_ := Qz.mk (Kd.Qaf (Kd.Qag (zv HO0_1) gb52 (Nat.le_of_eq hg.symm)) hb); have n2_ := Qz.mk (Qi (g := gb53) (o := .cells #[.slice A0_0 l0_0.length c0_0, .slice A0_1 l0_1.length c0_1] 27 (0, 0)) zk hb); have n3_ := Qz.mk (Qq zb hb); have n4_ := Qz.mk (hbox); have n5_ := Qz.mk ((zh hg : w.heap.size ≤ gb52)); have n6_ := n5_; have n7_ := Qz.mk ((yo2 : gb53 ≠ gb52)); have n8_ := Qz.mk ((yo3 : gb52 ≠ gb53)); clear HO0_0; clear HO0_1; clear BK53; clear HB; have HO0_0 := n0_; have HO0_1 := n1_; have BK53 := n2_; have HB := n3_; have BK52 := n4_; have GW52 := n5_; have GE52 := n6_; have NB895_896 := n7_; have NB896_895 := n8_; clear n0_ n1_ n2_ n3_ n4_ n5_ n6_ n7_ n8_; clear hb hbox hg; have hnb7 := NB895_896.out; have hnc7 := NB896_895.out; obtain ⟨z8_0, z8_1, j8_0, j8_1⟩ := Lv.blks2 BK53.out) | ((with_reducible refine gate_callee (f := 14) rfl ?_); refine Qat (some 9) rfl rfl Try.func14 (by kernel_rfl) rfl #[.agg #[.slice A0_0 l0_0.length c0_0, .slice A0_1 l0_1.length c0_1]] rfl zm ?_; (with_reducible refine (ZiLogFault.calls k _ _ l0_0 _ _ l0_1 t63 _ ?side1 ?side2 ?side3 ?side4 A3.out).mono ?_); (case side1 => exact zc (Kd.Qak HO0_0.out).2.2); (case side2 => exact (Kd.Qak HO0_0.out).2.1); (case side3 => exact zc (Kd.Qak HO0_1.out).2.2); (case side4 => exact (Kd.Qak HO0_1.out).2.1); rintro e w9 ⟨rfl, hb⟩; refine ⟨_, rfl, ?_⟩; have n0_ := Qz.mk (Kd.Qaf (zv HO0_0) hb); have n1_ := Qz.mk (Kd.Qaf (zv HO0_1) hb); have n2_ := Qz.mk (Qi (g := gb53) (o := .cells #[.slice A0_0 l0_0.length c0_0, .slice A0_1 l0_1.length c0_1] 27 (0, 0)) zk hb); have n3_ := Qz.mk (Qi (g := gb52) (o := .cells #[.int .i64 0, .int .i64 0, .slice none 0 0, .slice none 0 0] 59 (0, 0)) zk hb); have n4_ := Qz.mk (Qq zb hb); clear HO0_0; clear HO0_1; clear BK53; clear BK52; clear HB; have HO0_0 := n0_; have HO0_1 := n1_; have BK53 := n2_; have BK52 := n3_; have HB := n4_; clear n0_ n1_ n2_ n3_ n4_; (try clear hb); (try clear hb2); (try clear hk); (try clear hi)))
 (try simp only [Act.put, List.setIfInBounds_toArray, List.set_cons_zero, List.set_cons_succ])
 go_cut [19] (fun v19 wc => ∃ (kq : Nat) (x19_3 : Bool), v19 = .bool x19_3 ∧ Qz (ZiCrashLog.j0 kq a1 t63 x19_3 l0_0 l0_1 = some (r1, r2, r3, r4)) ∧ Qz (kq ≤ k) ∧ Qz (Kd.V (Kd.int .u8) 5 wc w.heap.size (fun k_ => ((P0_0_ k_ ∨ P0_1_ k_) ∨ w.heap.size ≤ k_) ∧ k_ ≠ gb53 ∧ k_ ≠ gb52) (.slice A0_0 l0_0.length c0_0) l0_0) ∧ Qz (Kd.V (Kd.int .u8) 5 wc w.heap.size (fun k_ => ((P0_0_ k_ ∨ P0_1_ k_) ∨ w.heap.size ≤ k_) ∧ k_ ≠ gb53 ∧ k_ ≠ gb52) (.slice A0_1 l0_1.length c0_1) l0_1) ∧ Qz (wc.heap[gb53]? = some (.cells #[(.slice A0_0 l0_0.length c0_0), (.slice A0_1 l0_1.length c0_1)] 27 (0, 0))) ∧ Qz (wc.heap[gb52]? = some (.cells #[.int .i64 0, .int .i64 0, (.slice none 0 0), (.slice none 0 0)] 59 (0, 0))) ∧ Qz (Below w.heap.size w wc))
 case first =>
  have H := HC4.out
  clear HC4
  by_cases c10 : t63 = 0
  ·rw [if_pos c10] at H
   have c10b0 : (t63 == 0) = true := beq_iff_eq.mpr c10
   have c10b1 : (t63 != 0) = false := bne_eq_false_iff_eq.mpr c10
   clear c10
   (first | rw [c10b0] | (simp only [Qar, Qas]; rw [c10b0]) | skip)
   replace H := Option.bind_eq_some_iff.mp H
   obtain ⟨t69, A70, H⟩ := H
   replace H : (ZiCrashLog.j0 k a1 t63 (!t69) l0_0 l0_1) = some (r1, r2, r3, r4) := H
   have A11 := Qz.mk A70
   clear A70
   have H' := Qz.mk H
   clear H
   have hnb12 := NB895_896.out
   have hnc12 := NB896_895.out
   obtain ⟨z13_0, z13_1, j13_0, j13_1⟩ := Lv.blks2 BK53.out
   go_wp2_with (first | (go_at_call 76; (with_reducible refine (Ziwithin.calls a1 0 (l0_1.length : Int) t69 _ A11.out).mono ?_); rintro e w' ⟨rfl, ⟨nd, rfl⟩⟩))
   go_meet
   case rel => exact ⟨_, (!t69), zs, H', ⟨by first | omega | exact Nat.le_refl _⟩, ⟨by refine zV ?_; exact Kd.Qae HO0_0.out (fun _ hk => ⟨hk.1.1, ⟨hk.1.2, hk.2⟩⟩)⟩, ⟨by refine zV ?_; exact Kd.Qae HO0_1.out (fun _ hk => ⟨hk.1.1, ⟨hk.1.2, hk.2⟩⟩)⟩, ⟨zq BK53⟩, ⟨zq BK52⟩, ⟨zb⟩⟩
  rw [if_neg c10] at H
  have c10b0 : (t63 == 0) = false := beq_eq_false_iff_ne.mpr c10
  have c10b1 : (t63 != 0) = true := bne_iff_ne.mpr c10
  (first | rw [c10b0] | (simp only [Qar, Qas]; rw [c10b0]) | skip)
  have H' := Qz.mk H
  clear H
  go_wp2
  go_meet
  case rel => exact ⟨_, (false), zs, H', ⟨by first | omega | exact Nat.le_refl _⟩, ⟨by refine zV ?_; exact Kd.Qae HO0_0.out (fun _ hk => ⟨hk.1.1, ⟨hk.1.2, hk.2⟩⟩)⟩, ⟨by refine zV ?_; exact Kd.Qae HO0_1.out (fun _ hk => ⟨hk.1.1, ⟨hk.1.2, hk.2⟩⟩)⟩, ⟨zq BK53⟩, ⟨zq BK52⟩, ⟨zb⟩⟩
 case rest =>
  clear HC4
  try clear c1
  try clear p2
  try clear c4
  try clear c7
  try clear c10
  try clear c10b0
  try clear c10b1
  try clear c12
  try clear z13_0 z13_1
  try clear z8_0 z8_1
  try clear j13_0 j13_1
  try clear j8_0 j8_1
  obtain ⟨kq, x19_3, rfl, HA, HJ3, HO_49, HO_50, BK53, BK52, HB⟩ := hcut
  cases kq with
  | zero => exact absurd HA.out (by simp [ZiCrashLog.j0])
  | succ kj3 =>
   have H := HA.out
   clear HA
   simp only [ZiCrashLog.j0] at H
   have HC14 := Qz.mk H
   clear H
   go_upto_if 19 with (fail)
   go_cut [5] (fun v5 wc => ∃ (kq : Nat) (x5_13 : Int), v5 = .int .i64 x5_13 ∧ Qz (ZiCrashLog.j1 kq a1 x5_13 l0_0 l0_1 = some (r1, r2, r3, r4)) ∧ Qz (kq ≤ kj3) ∧ Qz (Kd.V (Kd.int .u8) 5 wc w.heap.size (fun k_ => ((P0_0_ k_ ∨ P0_1_ k_) ∨ w.heap.size ≤ k_) ∧ k_ ≠ gb53 ∧ k_ ≠ gb52) (.slice A0_0 l0_0.length c0_0) l0_0) ∧ Qz (Kd.V (Kd.int .u8) 5 wc w.heap.size (fun k_ => ((P0_0_ k_ ∨ P0_1_ k_) ∨ w.heap.size ≤ k_) ∧ k_ ≠ gb53 ∧ k_ ≠ gb52) (.slice A0_1 l0_1.length c0_1) l0_1) ∧ Qz (wc.heap[gb53]? = some (.cells #[(.slice A0_0 l0_0.length c0_0), (.slice A0_1 l0_1.length c0_1)] 27 (0, 0))) ∧ Qz (wc.heap[gb52]? = some (.cells #[.int .i64 0, .int .i64 0, (.slice none 0 0), (.slice none 0 0)] 59 (0, 0))) ∧ Qz (Below w.heap.size w wc))
   case first =>
    have H := HC14.out
    clear HC14
    by_cases c15 : x19_3 = true
    ·subst c15
     have H1 : (ZiCrashLog.j1 kj3 a1 3 l0_0 l0_1) = some (r1, r2, r3, r4) := by rw [if_pos rfl] at H; exact H
     clear H
     have H := H1
     clear H1
     have H' := Qz.mk H
     clear H
     go_wp2
     go_meet
     case rel => exact ⟨_, (3), zs, H', ⟨by have := HJ3.out; first | omega | exact Nat.le_refl _⟩, ⟨zv HO_49⟩, ⟨zv HO_50⟩, ⟨zq BK53⟩, ⟨zq BK52⟩, ⟨zb⟩⟩
    replace c15 := Bool.eq_false_iff.mpr c15
    subst c15
    have H1 : (ZiCrashLog.j1 kj3 a1 t63 l0_0 l0_1) = some (r1, r2, r3, r4) := by rw [if_neg (show ¬ (false = true) by decide)] at H; exact H
    clear H
    have H := H1
    clear H1
    have H' := Qz.mk H
    clear H
    go_wp2
    go_meet
    case rel => exact ⟨_, (t63), zs, H', ⟨by have := HJ3.out; first | omega | exact Nat.le_refl _⟩, ⟨zv HO_49⟩, ⟨zv HO_50⟩, ⟨zq BK53⟩, ⟨zq BK52⟩, ⟨zb⟩⟩
   case rest =>
    clear HC14
    try clear c1
    try clear p2
    try clear c4
    try clear c7
    try clear c10
    try clear c10b0
    try clear c10b1
    try clear c12
    try clear c14
    try clear c15
    try clear z13_0 z13_1
    try clear z8_0 z8_1
    try clear j13_0 j13_1
    try clear j8_0 j8_1
    try clear p2
    obtain ⟨kq, x5_13, rfl, HA, HJ13, HO_49, HO_50, BK53, BK52, HB⟩ := hcut
    cases kq with
    | zero => exact absurd HA.out (by simp [ZiCrashLog.j1])
    | succ kj13 =>
     have H := HA.out
     clear HA
     simp only [ZiCrashLog.j1] at H
     by_cases c16 : x5_13 = 0
     ·rw [if_pos c16] at H
      have c16b0 : (x5_13 == 0) = true := beq_iff_eq.mpr c16
      have c16b1 : (x5_13 != 0) = false := bne_eq_false_iff_eq.mpr c16
      clear c16
      by_cases c17 : 0 ≤ a1
      ·rw [if_pos c17] at H
       have c17b0 := eq_true c17
       have c17b1 : decide (0 ≤ a1) = true := decide_eq_true c17
       clear c17
       by_cases c18 : a1 ≤ (l0_1.length : Int)
       ·rw [if_pos c18] at H
        have c18b0 := eq_true c18
        have c18b1 : decide (a1 ≤ (l0_1.length : Int)) = true := decide_eq_true c18
        clear c18
        obtain ⟨y61, hy61⟩ : ∃ y_ : List Int, y_ = (l0_1.take (a1 : Int).toNat) := ⟨_, rfl⟩
        replace H : ((ZcConcat_byte.f kj13 (([l0_0, y61] : List (List Int)))).bind fun t56 => ((Ziunpack.f kj13 t56).bind fun t58 => (if 0 ≤ (wrap64 (13 * (t58.length : Int))) then (if (wrap64 (13 * (t58.length : Int))) ≤ (t56.length : Int) then ((some (t56.take ((wrap64 (13 * (t58.length : Int))) : Int).toNat : List Int)).bind fun y55 => ((ZiLog_count.f y55 ([] : List Int)).bind fun t62 => (some (0, t62, y55, ([] : List Int))))) else (none)) else (none)))) = some (r1, r2, r3, r4) := by first | (rw [hy61]; with_reducible exact H) | (have H2_ := (Option.bind_some _ _).symm.trans H; rw [hy61]; with_reducible exact H2_) | (have H2_ := (Option.bind_some _ _).symm.trans H; with_reducible exact H2_) | with_reducible exact H | (rw [hy61]; exact H) | exact H
        have Ny61 := Qz.mk hy61
        clear hy61
        obtain ⟨y65, hy65⟩ : ∃ y_ : List (List Int), y_ = (([l0_0, y61] : List (List Int))) := ⟨_, rfl⟩
        replace H : ((ZcConcat_byte.f kj13 y65).bind fun t56 => ((Ziunpack.f kj13 t56).bind fun t58 => (if 0 ≤ (wrap64 (13 * (t58.length : Int))) then (if (wrap64 (13 * (t58.length : Int))) ≤ (t56.length : Int) then ((some (t56.take ((wrap64 (13 * (t58.length : Int))) : Int).toNat : List Int)).bind fun y55 => ((ZiLog_count.f y55 ([] : List Int)).bind fun t62 => (some (0, t62, y55, ([] : List Int))))) else (none)) else (none)))) = some (r1, r2, r3, r4) := by first | (rw [hy65]; with_reducible exact H) | (have H2_ := (Option.bind_some _ _).symm.trans H; rw [hy65]; with_reducible exact H2_) | (have H2_ := (Option.bind_some _ _).symm.trans H; with_reducible exact H2_) | with_reducible exact H | (rw [hy65]; exact H) | exact H
        have Ny65 := Qz.mk hy65
        clear hy65
        replace H := Option.bind_eq_some_iff.mp H
        obtain ⟨t56, A71, H⟩ := H
        replace H : ((Ziunpack.f kj13 t56).bind fun t58 => (if 0 ≤ (wrap64 (13 * (t58.length : Int))) then (if (wrap64 (13 * (t58.length : Int))) ≤ (t56.length : Int) then ((some (t56.take ((wrap64 (13 * (t58.length : Int))) : Int).toNat : List Int)).bind fun y55 => ((ZiLog_count.f y55 ([] : List Int)).bind fun t62 => (some (0, t62, y55, ([] : List Int))))) else (none)) else (none))) = some (r1, r2, r3, r4) := H
        have A19 := Qz.mk A71
        clear A71
        replace H := Option.bind_eq_some_iff.mp H
        obtain ⟨t58, A73, H⟩ := H
        replace H : (if 0 ≤ (wrap64 (13 * (t58.length : Int))) then (if (wrap64 (13 * (t58.length : Int))) ≤ (t56.length : Int) then ((some (t56.take ((wrap64 (13 * (t58.length : Int))) : Int).toNat : List Int)).bind fun y55 => ((ZiLog_count.f y55 ([] : List Int)).bind fun t62 => (some (0, t62, y55, ([] : List Int))))) else (none)) else (none)) = some (r1, r2, r3, r4) := H
        have A20 := Qz.mk A73
        clear A73
        obtain ⟨ji21, hji21⟩ : ∃ j_ : Int, (wrap64 (13 * (t58.length : Int))) = j_ := ⟨_, rfl⟩
        replace H : (if 0 ≤ (ji21) then (if (ji21) ≤ (t56.length : Int) then ((some (t56.take ((ji21) : Int).toNat : List Int)).bind fun y55 => ((ZiLog_count.f y55 ([] : List Int)).bind fun t62 => (some (0, t62, y55, ([] : List Int))))) else (none)) else (none)) = some (r1, r2, r3, r4) := by first | (rw [hji21] at H; exact H) | (simp only [hji21] at H ⊢; exact H)
        (try rw [hji21] at A19)
        (try rw [hji21] at A20)
        have hji21w : (IntKind.i64.wrap (13 * (t58.length : Int))) = ji21 := (Qar _).trans hji21
        by_cases c22 : 0 ≤ (ji21)
        ·rw [if_pos c22] at H
         have c22b0 := eq_true c22
         have c22b1 : decide (0 ≤ (ji21)) = true := decide_eq_true c22
         clear c22
         by_cases c23 : (ji21) ≤ (t56.length : Int)
         ·rw [if_pos c23] at H
          have c23b0 := eq_true c23
          have c23b1 : decide ((ji21) ≤ (t56.length : Int)) = true := decide_eq_true c23
          clear c23
          obtain ⟨y55, hy55⟩ : ∃ y_ : List Int, y_ = (t56.take ((ji21) : Int).toNat) := ⟨_, rfl⟩
          replace H : ((ZiLog_count.f y55 ([] : List Int)).bind fun t62 => (some (0, t62, y55, ([] : List Int)))) = some (r1, r2, r3, r4) := by first | (rw [hy55]; with_reducible exact H) | (have H2_ := (Option.bind_some _ _).symm.trans H; rw [hy55]; with_reducible exact H2_) | (have H2_ := (Option.bind_some _ _).symm.trans H; with_reducible exact H2_) | with_reducible exact H | (rw [hy55]; exact H) | exact H
          have Ny55 := Qz.mk hy55
          clear hy55
          replace H := Option.bind_eq_some_iff.mp H
          obtain ⟨t62, A74, H⟩ := H
          replace H : (some (0, t62, y55, ([] : List Int))) = some (r1, r2, r3, r4) := H
          have A24 := Qz.mk A74
          clear A74
          simp only [Option.some.injEq, Prod.mk.injEq] at H
          obtain ⟨rfl, rfl, rfl, rfl⟩ := H
          try go_wp2
          have n0_ := Qz.mk (Kd.Qt HO_49.out)
          have n1_ := Qz.mk (Kd.Qt HO_50.out)
          have n2_ := Qz.mk (Qg BK53.out)
          have n3_ := Qz.mk (Qg BK52.out)
          have n4_ := Qz.mk (Qb HB.out)
          clear HO_49
          clear HO_50
          clear BK53
          clear BK52
          clear HB
          have HO_49 := n0_
          have HO_50 := n1_
          have BK53 := n2_
          have BK52 := n3_
          have HB := n4_
          clear n0_ n1_ n2_ n3_ n4_
          have q26 : (a1 : Int) ≤ ((l0_1.length : Int) : Int) := of_decide_eq_true za
          obtain ⟨i026, hi026, _, hsz26, _⟩ := info_parts info5
          have hroom26 : l0_1.length ≤ c0_1 := (Kd.Qak HO_50.out).2.1
          have hC26 : Kd.F (Kd.int .u8) _ _ A0_1 l0_1.length l0_1 := (Kd.V_at (base := w.heap.size) HO_50.out).2.2
          have hcut26 := cut_to (P := Try.prog) 22 5 .i64 Try.underlying22 hi026 A0_1 l0_1.length c0_1 a1 (of_decide_eq_true za) q26 hroom26
          have hr26 := Kd.F_take (m := (a1 : Int).toNat) hC26 (by omega)
          have hy26 : y61.length = (a1 : Int).toNat := (by rw [Ny61.out, List.length_take]; omega)
          rw [← Ny61.out] at hr26
          rw [← hy26] at hcut26
          have HO57 := Qz.mk (show Kd.V (Kd.int .u8) 5 _ w.heap.size _ (.slice A0_1 y61.length c0_1) y61 from Kd.V_mk (by omega) hr26)
          have HC903 := Qz.mk (show y61.length ≤ c0_1 from by omega)
          clear hr26 hC26 hroom26 hi026 hsz26
          have KY26 := Qz.mk hy26
          clear hy26
          replace q26 := eq_true q26
          refine start_ (n := 9) (S := fun w' => w'.cell? ⟨gb53, 0, none⟩ = some (.slice A0_0 l0_0.length c0_0) ∧ w'.cell? ⟨gb53, 1, none⟩ = some (.slice A0_1 l0_1.length c0_1)) (ds := []) #[Z, Z, Z, Z, Z, Z, Z, Z, Z] (by kernel_rfl) rfl rfl ⟨(Qh BK53.out 0).trans rfl, (Qh BK53.out 1).trans rfl⟩ (fun hHeld => ?_); refine with_tabW ZiCrashLog.tab6 ZiCrashLog.bits6 (fun HT_ HW_ => ?_)
          generalize wc.drew = w25 at HO_49 HO_50 BK53 BK52 HB HO57 hHeld ⊢
          refine zp 0 24 ?_; refine zp 2 26 ?_; refine zp 4 28 ?_; refine zt 1 25 ?_; refine zt 3 27 ?_; refine zp 5 29 ?_
          refine one_ (i := 6) (N := some 30) #[Y, Y, Y, Y, Y, Y, Y, Z, Z] rfl rfl (one_of HT_.out (by kernel_rfl)) (by decide) (fun K hK => ?_)
          refine Kd.N_lit_step (Kd.slice 5 (Kd.int .u8)) _ 22 ?hg (N' := 30) ?hd (xs := ([l0_0, y61] : List (List Int))) (inner := [.slice A0_0 l0_0.length c0_0, .slice A0_1 y61.length c0_1]) (ok := (fun k_ => ((P0_0_ k_ ∨ P0_1_ k_) ∨ w.heap.size ≤ k_) ∧ k_ ≠ gb53 ∧ k_ ≠ gb52)) (okp := (fun k_ => ((P0_0_ k_ ∨ P0_1_ k_) ∨ w.heap.size ≤ k_) ∧ k_ ≠ gb53 ∧ k_ ≠ gb52)) ?hr ?hp (fun _ hk => hk) ((show ∀ k_, w25.heap.size ≤ k_ → (fun k_ => ((P0_0_ k_ ∨ P0_1_ k_) ∨ w.heap.size ≤ k_) ∧ k_ ≠ gb53 ∧ k_ ≠ gb52) k_ from fun k_ hk => ⟨(.inr (Nat.le_trans (Qp zb) hk)), Kd.freshB (g := gb53) (o := .cells #[.slice A0_0 l0_0.length c0_0, .slice A0_1 l0_1.length c0_1] 27 (0, 0)) zk k_ hk, Kd.freshB (g := gb52) (o := .cells #[.int .i64 0, .int .i64 0, .slice none 0 0, .slice none 0 0] 59 (0, 0)) zk k_ hk⟩) _ (Nat.le_refl _)) (Below.refl _ _) (Nat.le_refl _) (by simp) ?_; (case hd => rfl); (case hg => rfl); (case hr => exact yo4); (case hp => exact (Reps.one (show Kd.FK (Kd.slice 5 (Kd.int .u8)) _ _ l0_0 [.slice A0_0 l0_0.length c0_0] from (Kd.FK_slice_mk (Kd.Qak (Kd.Qae (ok' := (fun k_ => ((P0_0_ k_ ∨ P0_1_ k_) ∨ w.heap.size ≤ k_) ∧ k_ ≠ gb53 ∧ k_ ≠ gb52)) (HO_49.out) (fun k_ hk => ⟨hk.1, ⟨hk.2.1, hk.2.2⟩⟩))).2.1 (Kd.V_F (Kd.Qae (ok' := (fun k_ => ((P0_0_ k_ ∨ P0_1_ k_) ∨ w.heap.size ≤ k_) ∧ k_ ≠ gb53 ∧ k_ ≠ gb52)) (HO_49.out) (fun k_ hk => ⟨hk.1, ⟨hk.2.1, hk.2.2⟩⟩))))) (Reps.one (show Kd.FK (Kd.slice 5 (Kd.int .u8)) _ _ y61 [.slice A0_1 y61.length c0_1] from (Kd.FK_slice_mk (Kd.Qak (Kd.Qae (ok' := (fun k_ => ((P0_0_ k_ ∨ P0_1_ k_) ∨ w.heap.size ≤ k_) ∧ k_ ≠ gb53 ∧ k_ ≠ gb52)) (HO57.out) (fun k_ hk => ⟨hk.1, ⟨hk.2.1, hk.2.2⟩⟩))).2.1 (Kd.V_F (Kd.Qae (ok' := (fun k_ => ((P0_0_ k_ ∨ P0_1_ k_) ∨ w.heap.size ≤ k_) ∧ k_ ≠ gb53 ∧ k_ ≠ gb52)) (HO57.out) (fun k_ hk => ⟨hk.1, ⟨hk.2.1, hk.2.2⟩⟩))))) (Reps.none _ _))))
          intro v75 w27 ho28 hb hg_ hnew_
          clear hg_ hnew_
          (first | rw [← Ny65.out] at ho28 | (simp only [Int.reduceToNat] at ho28; rw [← Ny65.out] at ho28))
          have n0_ := Qz.mk (Kd.V_elder' (zv HO_49) (Kd.N_base ho28) hb)
          have n1_ := Qz.mk (Kd.V_elder' (zv HO_50) (Kd.N_base ho28) hb)
          have n2_ := Qz.mk (Kd.V_elder' (zv HO57) (Kd.N_base ho28) hb)
          have n3_ := Qz.mk (Kd.N_lower ho28 (Qp zb))
          have n4_ := Qz.mk (Qi (g := gb53) (o := .cells #[.slice A0_0 l0_0.length c0_0, .slice A0_1 l0_1.length c0_1] 27 (0, 0)) zk hb)
          have n5_ := Qz.mk (Qi (g := gb52) (o := .cells #[.int .i64 0, .int .i64 0, .slice none 0 0, .slice none 0 0] 59 (0, 0)) zk hb)
          have n6_ := Qz.mk (Qq zb hb)
          clear HO_49
          clear HO_50
          clear HO57
          clear BK53
          clear BK52
          clear HB
          have HO_49 := n0_
          have HO_50 := n1_
          have HO57 := n2_
          have HO60 := n3_
          have BK53 := n4_
          have BK52 := n5_
          have HB := n6_
          clear n0_ n1_ n2_ n3_ n4_ n5_ n6_
          clear hb ho28
          obtain ⟨Ao29, co29, eo29⟩ := Kd.N_slice HO60.out
          (first | subst eo29 | (injection eo29 with f1_ f2_ f3_; have f4_ := f1_.symm; have f5_ := f3_.symm; clear f1_ f2_ f3_; subst f4_; subst f5_))
          refine hK.out _ _ ⟨(Qh BK53.out 0).trans rfl, (Qh BK53.out 1).trans rfl⟩ (fun hHeld => ?_)
          clear hK K
          refine norm_ (a' := ?_) ?_ ?_
          rotate_left
          ·show Act.put _ (some 30) _ = _
           simp only [Act.put, List.setIfInBounds_toArray, List.set_cons_zero, List.set_cons_succ, Qar, Qas]
           rfl
          refine one_ (i := 7) (N := some 31) #[Y, Y, Y, Y, Y, Y, Y, Y, Z] rfl rfl (one_of HT_.out (by kernel_rfl)) (by decide) (fun K hK => ?_)
          refine goes_ Try.func77 (by kernel_rfl) rfl #[.slice Ao29 y65.length co29] (by rfl) rfl rfl zm ?_
          with_reducible refine (ZcConcat_byte.calls kj13 _ _ y65 t56 _ ?side1 ?side2 A19.out).mono ?_
          (case side1 => exact zc (Kd.N_reads' HO60.out).2.2)
          (case side2 => exact (Kd.N_reads' HO60.out).2.1)
          rintro e w30 ⟨v78, rfl, ho0, hb⟩
          refine ⟨_, rfl, ?_⟩
          have n0_ := Qz.mk (Kd.V_elder' (zv HO_49) (Kd.Qah ho0) hb)
          have n1_ := Qz.mk (Kd.V_elder' (zv HO_50) (Kd.Qah ho0) hb)
          have n2_ := Qz.mk (Kd.V_elder' (zv HO57) (Kd.Qah ho0) hb)
          have n3_ := Qz.mk (Kd.N_elder' yo1 (Kd.Qah ho0) hb)
          have n4_ := Qz.mk (Kd.Qan (Kd.R_newM (M := fun k_ => (w.heap.size ≤ k_)) ho0 (Qp zb) (fun k_ h_ => h_)) (Qp zb))
          have n5_ := Qz.mk (Qi (g := gb53) (o := .cells #[.slice A0_0 l0_0.length c0_0, .slice A0_1 l0_1.length c0_1] 27 (0, 0)) zk hb)
          have n6_ := Qz.mk (Qi (g := gb52) (o := .cells #[.int .i64 0, .int .i64 0, .slice none 0 0, .slice none 0 0] 59 (0, 0)) zk hb)
          have n7_ := Qz.mk (Qq zb hb)
          clear HO_49
          clear HO_50
          clear HO57
          clear HO60
          clear BK53
          clear BK52
          clear HB
          have HO_49 := n0_
          have HO_50 := n1_
          have HO57 := n2_
          have HO60 := n3_
          have HO68 := n4_
          have BK53 := n5_
          have BK52 := n6_
          have HB := n7_
          clear n0_ n1_ n2_ n3_ n4_ n5_ n6_ n7_
          (try clear hb)
          (try clear hb2)
          (try clear hk)
          (try clear hi)
          (try clear ho0)
          refine hK.out _ _ ⟨(Qh BK53.out 0).trans rfl, (Qh BK53.out 1).trans rfl⟩ (fun hHeld => ?_)
          clear hK K
          refine norm_ (a' := ?_) ?_ ?_
          rotate_left
          ·show Act.put _ (some 31) _ = _
           simp only [Act.put, List.setIfInBounds_toArray, List.set_cons_zero, List.set_cons_succ, Qar, Qas]
           rfl
          refine zp 8 6 ?_
          refine done_ (done_of HT_.out (by kernel_rfl)) ?_
          obtain ⟨Ao31, co31, eo31⟩ := Kd.R_slice HO68.out
          subst eo31
          try go_wp2_with (first | ((with_reducible refine gate_callee (f := 51) rfl ?_); refine Qat (some 34) rfl rfl Try.func51 (by kernel_rfl) rfl #[.slice Ao31 t56.length co31] rfl zm ?_; (with_reducible refine (Ziunpack.calls kj13 (fun k_ => some k_ = (.slice Ao31 t56.length co31 : Value).ownBlock) _ _ t56 t58 _ ?side1 A20.out).mono ?_); (case side1 => exact Kd.R_V (Kd.R_tight rfl (Kd.Qai (Kd.Qai (Kd.R_apart' (HO68.out) (Kd.N_typed HO60.out) (by decide)) BK53.out (by decide)) BK52.out (by decide)))); rintro e w32 ⟨v79, rfl, ho0, hb⟩; refine ⟨_, rfl, ?_⟩; have n0_ := Qz.mk (Kd.V_elder' (zv HO_49) (Kd.Qah ho0) hb); have n1_ := Qz.mk (Kd.V_elder' (zv HO_50) (Kd.Qah ho0) hb); have n2_ := Qz.mk (Kd.V_elder' (zv HO57) (Kd.Qah ho0) hb); have n3_ := Qz.mk (Kd.N_elder' yo1 (Kd.Qah ho0) hb); have n4_ := Qz.mk (Kd.Qy (zr HO68) hb); have n5_ := Qz.mk (Kd.Qan (Kd.R_newM (M := fun k_ => (w.heap.size ≤ k_)) (Kd.Qw (ok' := fun k_ => True) ho0 (fun _ hk_ => trivial)) (Qp zb) (fun k_ h_ => h_)) (Qp zb)); have n6_ := Qz.mk (Qi (g := gb53) (o := .cells #[.slice A0_0 l0_0.length c0_0, .slice A0_1 l0_1.length c0_1] 27 (0, 0)) zk hb); have n7_ := Qz.mk (Qi (g := gb52) (o := .cells #[.int .i64 0, .int .i64 0, .slice none 0 0, .slice none 0 0] 59 (0, 0)) zk hb); have n8_ := Qz.mk (Qq zb hb); clear HO_49; clear HO_50; clear HO57; clear HO60; clear HO68; clear BK53; clear BK52; clear HB; have HO_49 := n0_; have HO_50 := n1_; have HO57 := n2_; have HO60 := n3_; have HO68 := n4_; have HO67 := n5_; have BK53 := n6_; have BK52 := n7_; have HB := n8_; clear n0_ n1_ n2_ n3_ n4_ n5_ n6_ n7_ n8_; (try clear hb); (try clear hb2); (try clear hk); (try clear hi); (try clear ho0); obtain ⟨Ao33, co33, eo33⟩ := Kd.R_slice HO67.out; subst eo33; have q34 : ((ji21) : Int) ≤ ((t56.length : Int) : Int) := of_decide_eq_true za; obtain ⟨i034, hi034, _, hsz34, _⟩ := info_parts info5; have hcut34 := cut_to (P := Try.prog) 22 5 .i64 Try.underlying22 hi034 Ao31 t56.length co31 (ji21) (of_decide_eq_true za) q34 (Kd.Qaj HO68.out).2.1; have hr34 := Kd.R_take (m := ((ji21) : Int).toNat) HO68.out (by omega); have hy34 : y55.length = ((ji21) : Int).toNat := (by rw [Ny55.out, List.length_take]; omega); rw [← Ny55.out] at hr34; rw [← hy34] at hr34 hcut34; clear hy34 hi034 hsz34 HO68; have HO66 := Qz.mk hr34; clear hr34; replace q34 := eq_true q34) | ((with_reducible refine gate_dst (N := 7) rfl ?_); (try (refine gate_guard (by rfl) ?_; dsimp only)); refine box_event ?hg (N := 7) ?hd (cs := #[.slice none 0 0, .slice none 0 0]) (t := 27) ?hr ?_; (case hd => rfl); (case hg => rfl); (case hr => exact yo4); intro gb54 hg w35 hbox hb; have n0_ := Qz.mk (Kd.Qaf (Kd.Qag (zv HO_49) gb54 (Nat.le_of_eq hg.symm)) hb); have n1_ := Qz.mk (Kd.Qaf (Kd.Qag (zv HO_50) gb54 (Nat.le_of_eq hg.symm)) hb); have n2_ := Qz.mk (Kd.Qaf (Kd.Qag (zv HO57) gb54 (Nat.le_of_eq hg.symm)) hb); have n3_ := Qz.mk (Kd.N_below (Kd.N_elderB yo1 gb54 (Nat.le_of_eq hg.symm)) hb); have n4_ := Qz.mk (Kd.Qy (zr HO66) hb); have n5_ := Qz.mk (Kd.Qy (zr HO67) hb); have n6_ := Qz.mk (Qi (g := gb53) (o := .cells #[.slice A0_0 l0_0.length c0_0, .slice A0_1 l0_1.length c0_1] 27 (0, 0)) zk hb); have n7_ := Qz.mk (Qi (g := gb52) (o := .cells #[.int .i64 0, .int .i64 0, .slice none 0 0, .slice none 0 0] 59 (0, 0)) zk hb); have n8_ := Qz.mk (Qq zb hb); have n9_ := Qz.mk (hbox); have n10_ := Qz.mk ((zh hg : w.heap.size ≤ gb54)); have n11_ := n10_; have n12_ := Qz.mk ((yo2 : gb53 ≠ gb54)); have n13_ := Qz.mk ((yo3 : gb54 ≠ gb53)); have n14_ := Qz.mk ((by rw [hg]; exact Nat.ne_of_lt (Ql (g := gb52) (o := .cells #[.int .i64 0, .int .i64 0, .slice none 0 0, .slice none 0 0] 59 (0, 0)) zk) : gb52 ≠ gb54)); have n15_ := Qz.mk ((by rw [hg]; exact Nat.ne_of_gt (Ql (g := gb52) (o := .cells #[.int .i64 0, .int .i64 0, .slice none 0 0, .slice none 0 0] 59 (0, 0)) zk) : gb54 ≠ gb52)); clear HO_49; clear HO_50; clear HO57; clear HO60; clear HO66; clear HO67; clear BK53; clear BK52; clear HB; have HO_49 := n0_; have HO_50 := n1_; have HO57 := n2_; have HO60 := n3_; have HO66 := n4_; have HO67 := n5_; have BK53 := n6_; have BK52 := n7_; have HB := n8_; have BK54 := n9_; have GW54 := n10_; have GE54 := n11_; have NB895_916 := n12_; have NB916_895 := n13_; have NB896_916 := n14_; have NB916_896 := n15_; clear n0_ n1_ n2_ n3_ n4_ n5_ n6_ n7_ n8_ n9_ n10_ n11_ n12_ n13_ n14_ n15_; clear hb hbox hg; have hnb36 := NB916_895.out; have hnc36 := NB895_916.out; have hnb37 := NB916_896.out; have hnc37 := NB896_916.out; obtain ⟨z38_0, z38_1, j38_0, j38_1⟩ := Lv.blks2 BK54.out))
          have n0_ : Qz (Kd.V (Kd.int .u8) 5 ((w35.setCell ⟨gb54, 0, none⟩ (.slice Ao31 y55.length co31)).setCell ⟨gb54, 1, none⟩ (.slice none 0 0)) w.heap.size (fun k_ => ((P0_0_ k_ ∨ P0_1_ k_) ∨ w.heap.size ≤ k_) ∧ some k_ ≠ (.slice Ao29 y65.length co29 : Value).ownBlock ∧ some k_ ≠ (.slice Ao31 y55.length co31 : Value).ownBlock ∧ some k_ ≠ (.slice Ao33 t58.length co33 : Value).ownBlock ∧ k_ ≠ gb53 ∧ k_ ≠ gb52 ∧ k_ ≠ gb54) (.slice A0_0 l0_0.length c0_0) l0_0) := ⟨by refine zV ?_; exact Kd.Qae (Kd.Qad (p := ⟨gb54, 1, none⟩) (Kd.Qad (p := ⟨gb54, 0, none⟩) (Kd.Qae HO_49.out (fun k_ hk => (⟨hk, hk.2⟩ : _ ∧ k_ ≠ gb54))) (fun _ hk => hk.2) (.slice Ao31 y55.length co31)) (fun _ hk => hk.2) (.slice none 0 0)) (fun _ hk => ⟨hk.1.1.1.1.1.1, ⟨hk.1.1.1.1.2, ⟨yo0, ⟨hk.1.1.2, ⟨hk.1.1.1.1.1.2.1, ⟨hk.1.1.1.1.1.2.2, hk.1.2⟩⟩⟩⟩⟩⟩)⟩
          have n1_ : Qz (Kd.V (Kd.int .u8) 5 ((w35.setCell ⟨gb54, 0, none⟩ (.slice Ao31 y55.length co31)).setCell ⟨gb54, 1, none⟩ (.slice none 0 0)) w.heap.size (fun k_ => ((P0_0_ k_ ∨ P0_1_ k_) ∨ w.heap.size ≤ k_) ∧ some k_ ≠ (.slice Ao29 y65.length co29 : Value).ownBlock ∧ some k_ ≠ (.slice Ao31 y55.length co31 : Value).ownBlock ∧ some k_ ≠ (.slice Ao33 t58.length co33 : Value).ownBlock ∧ k_ ≠ gb53 ∧ k_ ≠ gb52 ∧ k_ ≠ gb54) (.slice A0_1 l0_1.length c0_1) l0_1) := ⟨by refine zV ?_; exact Kd.Qae (Kd.Qad (p := ⟨gb54, 1, none⟩) (Kd.Qad (p := ⟨gb54, 0, none⟩) (Kd.Qae HO_50.out (fun k_ hk => (⟨hk, hk.2⟩ : _ ∧ k_ ≠ gb54))) (fun _ hk => hk.2) (.slice Ao31 y55.length co31)) (fun _ hk => hk.2) (.slice none 0 0)) (fun _ hk => ⟨hk.1.1.1.1.1.1, ⟨hk.1.1.1.1.2, ⟨yo0, ⟨hk.1.1.2, ⟨hk.1.1.1.1.1.2.1, ⟨hk.1.1.1.1.1.2.2, hk.1.2⟩⟩⟩⟩⟩⟩)⟩
          have n2_ : Qz (Kd.V (Kd.int .u8) 5 ((w35.setCell ⟨gb54, 0, none⟩ (.slice Ao31 y55.length co31)).setCell ⟨gb54, 1, none⟩ (.slice none 0 0)) w.heap.size (fun k_ => ((P0_0_ k_ ∨ P0_1_ k_) ∨ w.heap.size ≤ k_) ∧ some k_ ≠ (.slice Ao29 y65.length co29 : Value).ownBlock ∧ some k_ ≠ (.slice Ao31 y55.length co31 : Value).ownBlock ∧ some k_ ≠ (.slice Ao33 t58.length co33 : Value).ownBlock ∧ k_ ≠ gb53 ∧ k_ ≠ gb52 ∧ k_ ≠ gb54) (.slice A0_1 y61.length c0_1) y61) := ⟨by refine zV ?_; exact Kd.Qae (Kd.Qad (p := ⟨gb54, 1, none⟩) (Kd.Qad (p := ⟨gb54, 0, none⟩) (Kd.Qae HO57.out (fun k_ hk => (⟨hk, hk.2⟩ : _ ∧ k_ ≠ gb54))) (fun _ hk => hk.2) (.slice Ao31 y55.length co31)) (fun _ hk => hk.2) (.slice none 0 0)) (fun _ hk => ⟨hk.1.1.1.1.1.1, ⟨hk.1.1.1.1.2, ⟨yo0, ⟨hk.1.1.2, ⟨hk.1.1.1.1.1.2.1, ⟨hk.1.1.1.1.1.2.2, hk.1.2⟩⟩⟩⟩⟩⟩)⟩
          have n3_ : Qz (Kd.N (Kd.slice 5 (Kd.int .u8)) 22 ((w35.setCell ⟨gb54, 0, none⟩ (.slice Ao31 y55.length co31)).setCell ⟨gb54, 1, none⟩ (.slice none 0 0)) w.heap.size (fun k_ => ((P0_0_ k_ ∨ P0_1_ k_) ∨ w.heap.size ≤ k_) ∧ some k_ ≠ (.slice Ao31 y55.length co31 : Value).ownBlock ∧ some k_ ≠ (.slice Ao33 t58.length co33 : Value).ownBlock ∧ k_ ≠ gb53 ∧ k_ ≠ gb52 ∧ k_ ≠ gb54) (.slice Ao29 y65.length co29) y65) := ⟨by (with_reducible repeat (first | apply Kd.N_alloc | apply Kd.N_drewN | apply Kd.N_drew)); exact Kd.N_mono (Kd.N_far (p := ⟨gb54, 1, none⟩) (Kd.N_far (p := ⟨gb54, 0, none⟩) (Kd.N_mono HO60.out (fun k_ hk => (⟨hk, hk.2⟩ : _ ∧ k_ ≠ gb54))) (fun _ hk => hk.2) (.slice Ao31 y55.length co31)) (fun _ hk => hk.2) (.slice none 0 0)) (fun _ hk => ⟨hk.1.1.1.1.1, ⟨yo0, ⟨hk.1.1.2, ⟨hk.1.1.1.1.2.1, ⟨hk.1.1.1.1.2.2, hk.1.2⟩⟩⟩⟩⟩)⟩
          have n4_ : Qz (Kd.R (Kd.int .u8) 5 ((w35.setCell ⟨gb54, 0, none⟩ (.slice Ao31 y55.length co31)).setCell ⟨gb54, 1, none⟩ (.slice none 0 0)) w.heap.size (fun k_ => (w.heap.size ≤ k_)) (.slice Ao31 y55.length co31) y55) := ⟨by refine zR ?_; exact Kd.Qw (Kd.Qx (p := ⟨gb54, 1, none⟩) (Kd.Qx (p := ⟨gb54, 0, none⟩) (Kd.Qai HO66.out BK54.out (by decide)) (fun _ hk => hk.2) (.slice Ao31 y55.length co31)) (fun _ hk => hk.2) (.slice none 0 0)) (fun _ hk => hk.1.1)⟩
          have n5_ : Qz (Kd.R k48 48 ((w35.setCell ⟨gb54, 0, none⟩ (.slice Ao31 y55.length co31)).setCell ⟨gb54, 1, none⟩ (.slice none 0 0)) w.heap.size (fun k_ => (w.heap.size ≤ k_)) (.slice Ao33 t58.length co33) t58) := ⟨by refine zR ?_; exact Kd.Qw (Kd.Qx (p := ⟨gb54, 1, none⟩) (Kd.Qx (p := ⟨gb54, 0, none⟩) (Kd.Qai HO67.out BK54.out (by decide)) (fun _ hk => hk.2) (.slice Ao31 y55.length co31)) (fun _ hk => hk.2) (.slice none 0 0)) (fun _ hk => hk.1.1)⟩
          have n6_ : Qz (((w35.setCell ⟨gb54, 0, none⟩ (.slice Ao31 y55.length co31)).setCell ⟨gb54, 1, none⟩ (.slice none 0 0)).heap[gb53]? = some (.cells #[.slice A0_0 l0_0.length c0_0, .slice A0_1 l0_1.length c0_1] 27 (0, 0))) := ⟨by refine zQ ?_; refine blk_far ?_ NB895_916.out _; refine zQ ?_; refine blk_far ?_ NB895_916.out _; refine zQ ?_; exact BK53.out⟩
          have n7_ : Qz (((w35.setCell ⟨gb54, 0, none⟩ (.slice Ao31 y55.length co31)).setCell ⟨gb54, 1, none⟩ (.slice none 0 0)).heap[gb52]? = some (.cells #[.int .i64 0, .int .i64 0, .slice none 0 0, .slice none 0 0] 59 (0, 0))) := ⟨by refine zQ ?_; refine blk_far ?_ NB896_916.out _; refine zQ ?_; refine blk_far ?_ NB896_916.out _; refine zQ ?_; exact BK52.out⟩
          have n8_ : Qz (((w35.setCell ⟨gb54, 0, none⟩ (.slice Ao31 y55.length co31)).setCell ⟨gb54, 1, none⟩ (.slice none 0 0)).heap[gb54]? = some (.cells #[.slice Ao31 y55.length co31, .slice none 0 0] 27 (0, 0))) := ⟨by refine zQ ?_; refine Qk (cs := #[.slice Ao31 y55.length co31, .slice none 0 0]) ?_ 1 _ rfl; refine zQ ?_; refine Qk (cs := #[.slice none 0 0, .slice none 0 0]) ?_ 0 _ rfl; refine zQ ?_; exact BK54.out⟩
          have n9_ : Qz (Below w.heap.size w ((w35.setCell ⟨gb54, 0, none⟩ (.slice Ao31 y55.length co31)).setCell ⟨gb54, 1, none⟩ (.slice none 0 0))) := ⟨zb⟩
          (try clear HO_49)
          (try clear HO_50)
          (try clear HO57)
          (try clear HO60)
          (try clear HO66)
          (try clear HO67)
          (try clear BK53)
          (try clear BK52)
          (try clear BK54)
          (try clear HB)
          generalize ((w35.setCell ⟨gb54, 0, none⟩ (.slice Ao31 y55.length co31)).setCell ⟨gb54, 1, none⟩ (.slice none 0 0)) = w39 at n0_ n1_ n2_ n3_ n4_ n5_ n6_ n7_ n8_ n9_ ⊢
          have HO_49 := n0_
          have HO_50 := n1_
          have HO57 := n2_
          have HO60 := n3_
          have HO66 := n4_
          have HO67 := n5_
          have BK53 := n6_
          have BK52 := n7_
          have BK54 := n8_
          have HB := n9_
          clear n0_ n1_ n2_ n3_ n4_ n5_ n6_ n7_ n8_ n9_
          have n0_ := Qz.mk (Kd.Qt HO_49.out)
          have n1_ := Qz.mk (Kd.Qt HO_50.out)
          have n2_ := Qz.mk (Kd.Qt HO57.out)
          have n3_ := Qz.mk (Kd.N_drew HO60.out)
          have n4_ := Qz.mk (Kd.Qo HO66.out)
          have n5_ := Qz.mk (Kd.Qo HO67.out)
          have n6_ := Qz.mk (Qg BK53.out)
          have n7_ := Qz.mk (Qg BK52.out)
          have n8_ := Qz.mk (Qg BK54.out)
          have n9_ := Qz.mk (Qb HB.out)
          clear HO_49
          clear HO_50
          clear HO57
          clear HO60
          clear HO66
          clear HO67
          clear BK53
          clear BK52
          clear BK54
          clear HB
          have HO_49 := n0_
          have HO_50 := n1_
          have HO57 := n2_
          have HO60 := n3_
          have HO66 := n4_
          have HO67 := n5_
          have BK53 := n6_
          have BK52 := n7_
          have BK54 := n8_
          have HB := n9_
          clear n0_ n1_ n2_ n3_ n4_ n5_ n6_ n7_ n8_ n9_
          refine start_ (n := 5) (S := fun w' => w'.cell? ⟨gb54, 0, none⟩ = some (.slice Ao31 y55.length co31) ∧ w'.cell? ⟨gb54, 1, none⟩ = some (.slice none 0 0)) (ds := []) #[Z, Z, Z, Z, Z] (by kernel_rfl) rfl rfl ⟨(Qh BK54.out 0).trans rfl, (Qh BK54.out 1).trans rfl⟩ (fun hHeld => ?_)
          generalize w39.drew = w40 at HO_49 HO_50 HO57 HO60 HO66 HO67 BK53 BK52 BK54 HB hHeld ⊢
          refine zt 0 39 ?_; refine zt 2 41 ?_
          refine one_ (i := 1) (N := some 40) #[Y, Y, Y, Z, Z] rfl rfl (by kernel_rfl) (by decide) (fun K hK => ?_)
          refine goes_ Try.func72 (by kernel_rfl) rfl #[.agg #[.slice Ao31 y55.length co31, .slice none 0 0]] (by rfl) rfl rfl zm ?_
          refine (ZiLog_count.calls _ _ y55 _ _ ([] : List Int) t62 _ ?side1 ?side2 ?side3 ?side4 A24.out).mono ?_
          (case side1 => exact zc (Kd.Qaj HO66.out).2.2)
          (case side2 => exact (Kd.Qaj HO66.out).2.1)
          (case side3 => exact Kd.C_nil _ _)
          (case side4 => exact Nat.le_refl _)
          rintro e w41 ⟨rfl, hb⟩
          refine ⟨_, rfl, ?_⟩
          have n0_ := Qz.mk (Kd.Qaf (zv HO_49) hb)
          have n1_ := Qz.mk (Kd.Qaf (zv HO_50) hb)
          have n2_ := Qz.mk (Kd.Qaf (zv HO57) hb)
          have n3_ := Qz.mk (Kd.N_below yo1 hb)
          have n4_ := Qz.mk (Kd.Qy (zr HO66) hb)
          have n5_ := Qz.mk (Kd.Qy (zr HO67) hb)
          have n6_ := Qz.mk (Qi (g := gb53) (o := .cells #[.slice A0_0 l0_0.length c0_0, .slice A0_1 l0_1.length c0_1] 27 (0, 0)) zk hb)
          have n7_ := Qz.mk (Qi (g := gb52) (o := .cells #[.int .i64 0, .int .i64 0, .slice none 0 0, .slice none 0 0] 59 (0, 0)) zk hb)
          have n8_ := Qz.mk (Qi (g := gb54) (o := .cells #[.slice Ao31 y55.length co31, .slice none 0 0] 27 (0, 0)) zk hb)
          have n9_ := Qz.mk (Qq zb hb)
          clear HO_49
          clear HO_50
          clear HO57
          clear HO60
          clear HO66
          clear HO67
          clear BK53
          clear BK52
          clear BK54
          clear HB
          have HO_49 := n0_
          have HO_50 := n1_
          have HO57 := n2_
          have HO60 := n3_
          have HO66 := n4_
          have HO67 := n5_
          have BK53 := n6_
          have BK52 := n7_
          have BK54 := n8_
          have HB := n9_
          clear n0_ n1_ n2_ n3_ n4_ n5_ n6_ n7_ n8_ n9_
          (try clear hb)
          (try clear hb2)
          (try clear hk)
          (try clear hi)
          refine hK.out _ _ ⟨(Qh BK54.out 0).trans rfl, (Qh BK54.out 1).trans rfl⟩ (fun hHeld => ?_)
          clear hK K
          refine norm_ (a' := ?_) ?_ ?_
          rotate_left
          ·show Act.put _ (some 40) _ = _
           simp only [Act.put, List.setIfInBounds_toArray, List.set_cons_zero, List.set_cons_succ, Qar, Qas]
           rfl
          refine zp 3 42 ?_
          refine one_ (i := 4) (N := none) #[Y, Y, Y, Y, Y] rfl rfl (by kernel_rfl) (by decide) (fun K hK => ?_)
          have hs42 : w41.cell? ⟨gb52, 0, none⟩ = some (.int .i64 0) := (Qh BK52.out 0).trans rfl
          have hfs42 := Qj BK52.out 0
          have hns42_0 := NB895_896.out
          have hns42_2 := NB916_896.out
          have hms42_0 := NB896_895.out
          have hms42_2 := NB896_916.out
          have hs43 : w41.cell? ⟨gb52, 1, none⟩ = some (.int .i64 0) := (Qh BK52.out 1).trans rfl
          have hfs43 := Qj BK52.out 1
          have hns43_0 := NB895_896.out
          have hns43_2 := NB916_896.out
          have hms43_0 := NB896_895.out
          have hms43_2 := NB896_916.out
          have hs44 : w41.cell? ⟨gb52, 2, none⟩ = some (.slice none 0 0) := (Qh BK52.out 2).trans rfl
          have hfs44 := Qj BK52.out 2
          have hns44_0 := NB895_896.out
          have hns44_2 := NB916_896.out
          have hms44_0 := NB896_895.out
          have hms44_2 := NB896_916.out
          have hs45 : w41.cell? ⟨gb52, 3, none⟩ = some (.slice none 0 0) := (Qh BK52.out 3).trans rfl
          have hfs45 := Qj BK52.out 3
          have hns45_0 := NB895_896.out
          have hns45_2 := NB916_896.out
          have hms45_0 := NB896_895.out
          have hms45_2 := NB896_916.out
          refine skip_ (w1 := ?_) (by rfl) rfl ?_ ?_
          rotate_left
          ·go_simp
           rfl
          refine hK.out _ _ ⟨((Qaq (p := ⟨gb52, _, none⟩) NB916_896.out _).trans (((Qaq (p := ⟨gb52, _, none⟩) NB916_896.out _).trans (((Qaq (p := ⟨gb52, _, none⟩) NB916_896.out _).trans (((Qaq (p := ⟨gb52, _, none⟩) NB916_896.out _).trans (hHeld.1)))))))), ((Qaq (p := ⟨gb52, _, none⟩) NB916_896.out _).trans (((Qaq (p := ⟨gb52, _, none⟩) NB916_896.out _).trans (((Qaq (p := ⟨gb52, _, none⟩) NB916_896.out _).trans (((Qaq (p := ⟨gb52, _, none⟩) NB916_896.out _).trans (hHeld.2))))))))⟩ (fun hHeld => ?_)
          clear hK K
          refine done_ (by kernel_rfl) ?_
          try go_wp2
          refine bodyPost_ret (results_cell_row rfl _ _ gb52 59 #[.int .i64 0, .int .i64 t62, .slice Ao31 y55.length co31, .slice none 0 0] (0, 0) _ rfl (by refine zQ ?_; refine Qk (cs := #[.int .i64 0, .int .i64 t62, .slice Ao31 y55.length co31, .slice none 0 0]) ?_ 3 _ rfl; refine zQ ?_; refine Qk (cs := #[.int .i64 0, .int .i64 t62, .slice none 0 0, .slice none 0 0]) ?_ 2 _ rfl; refine zQ ?_; refine Qk (cs := #[.int .i64 0, .int .i64 0, .slice none 0 0, .slice none 0 0]) ?_ 1 _ rfl; refine zQ ?_; refine Qk (cs := #[.int .i64 0, .int .i64 0, .slice none 0 0, .slice none 0 0]) ?_ 0 _ rfl; refine zQ ?_; exact BK52.out) Try.underlying59 rfl (by kernel_rfl)) rfl ?_
          exact ⟨_, _, by first | rfl | (simp [Qv, Qu] <;> rfl) | (simp only [← hji21]; first | rfl | (simp [Qv, Qu] <;> rfl)) | (simp [*, Qv, Qu] <;> rfl), by refine zR ?_; exact Kd.Qw (Kd.Qx (p := ⟨gb52, 3, none⟩) (Kd.Qx (p := ⟨gb52, 2, none⟩) (Kd.Qx (p := ⟨gb52, 1, none⟩) (Kd.Qx (p := ⟨gb52, 0, none⟩) (Kd.Qai HO66.out BK52.out (by decide)) (fun _ hk => hk.2) (.int .i64 0)) (fun _ hk => hk.2) (.int .i64 t62)) (fun _ hk => hk.2) (.slice Ao31 y55.length co31)) (fun _ hk => hk.2) (.slice none 0 0)) (fun _ hk => ⟨hk.1, (by simp [Value.ownBlock])⟩), by first | exact Kd.R_nil _ _ _ _ _ | exact Kd.N_nil _ _ _ _ _ | exact Kd.V_nil _ _ _ _ _ | exact Kd.Q_nil _ _ _ _ _ | exact Kd.S_nil _ _ _ _ _, zb⟩
         rw [if_neg c23] at H
         exact absurd H (by simp)
        rw [if_neg c22] at H
        exact absurd H (by simp)
       rw [if_neg c18] at H
       exact absurd H (by simp)
      rw [if_neg c17] at H
      exact absurd H (by simp)
     rw [if_neg c16] at H
     have c16b0 : (x5_13 == 0) = false := beq_eq_false_iff_ne.mpr c16
     have c16b1 : (x5_13 != 0) = true := bne_iff_ne.mpr c16
     simp only [Option.some.injEq, Prod.mk.injEq] at H
     obtain ⟨rfl, rfl, rfl, rfl⟩ := H
     have hnb46 := NB896_895.out
     have hnc46 := NB895_896.out
     obtain ⟨z47_0, z47_1, z47_2, z47_3, j47_0, j47_1, j47_2, j47_3⟩ := Lv.blks4 BK52.out
     go_wp2
     refine bodyPost_ret (results_cell_row rfl _ _ gb52 59 #[.int .i64 x5_13, .int .i64 0, .slice none 0 0, .slice none 0 0] (0, 0) _ rfl (by refine zQ ?_; refine Qk (cs := #[.int .i64 x5_13, .int .i64 0, .slice none 0 0, .slice none 0 0]) ?_ 3 _ rfl; refine zQ ?_; refine Qk (cs := #[.int .i64 x5_13, .int .i64 0, .slice none 0 0, .slice none 0 0]) ?_ 2 _ rfl; refine zQ ?_; refine Qk (cs := #[.int .i64 x5_13, .int .i64 0, .slice none 0 0, .slice none 0 0]) ?_ 1 _ rfl; refine zQ ?_; refine Qk (cs := #[.int .i64 0, .int .i64 0, .slice none 0 0, .slice none 0 0]) ?_ 0 _ rfl; refine zQ ?_; exact BK52.out) Try.underlying59 rfl (by kernel_rfl)) rfl ?_
     exact ⟨_, _, ze, by first | exact Kd.R_nil _ _ _ _ _ | exact Kd.N_nil _ _ _ _ _ | exact Kd.V_nil _ _ _ _ _ | exact Kd.Q_nil _ _ _ _ _ | exact Kd.S_nil _ _ _ _ _, by first | exact Kd.R_nil _ _ _ _ _ | exact Kd.N_nil _ _ _ _ _ | exact Kd.V_nil _ _ _ _ _ | exact Kd.Q_nil _ _ _ _ _ | exact Kd.S_nil _ _ _ _ _, zb⟩
end Go.Proofs.Ythagppmaofcllaa.P
