import Derived.Test.YthagppmaofcllaaZz
import Derived.Test.YthagppmaofcllaaP0
import Derived.Test.YthagppmaofcllaaPDadefgh0
import Derived.Test.YthagppmaofcllaaWRepsOne
import Derived.Test.YthagppmaofcllaaWTab
namespace Go.Proofs.Ythagppmaofcllaa.P
open Go.RowKit Go.Proofs.YthagppmaofcllaaW.PrintWords Go.Proofs.YthagppmaofcllaaW.PrintLast Go.Proofs.YthagppmaofcllaaW.PrintMore
attribute [local go_sem] max2_int min2_int max_two min_two max_three min_three max_four min_four   -- for this text's walks alone
set_option linter.unusedVariables false
set_option linter.unusedSimpArgs false
theorem yd0 {p : Prop} (h : p := by repeat (first | (with_reducible first | exact HB.out | apply Qc | apply Qa | apply Qb | refine Qd ?_ GE31.out) | exact HB.out)) : p := h
set_option maxHeartbeats 8000000 in
set_option maxRecDepth 100000 in
theorem Zitake.calls (k : Nat) (A0 : Option Addr) (c0 : Nat) (l0 : List Int) (r : Int) (w : World) (hr0 : Kd.C (Kd.int .u8) w A0 l0.length l0) (hc0 : l0.length ≤ c0) (h : Zitake.f k l0 = some r) :
 Calls Try.prog 81 #[.slice A0 l0.length c0] w fun e w' => e = .returned (.int .i64 r) ∧ Drawn0 w w' := by
 have HR0 := Qz.mk hr0
 have HC0 := Qz.mk hc0
 clear hr0 hc0
 have H : (Zitake.l0 k 0 l0 (l0.length : Int) 0) = some r := h
 clear h
 have H' := Qz.mk H
 clear H
 go_enter Try.func81, Try.ntmps81
 go_wp2
 go_loopg [3, 8] k (fun kq v3 v8 w' => ∃ (x3_1 : Int) (x8_1 : Int), v3 = .int .i64 x3_1 ∧ v8 = .int .i64 x8_1 ∧ Qz (Zitake.l0 kq x3_1 l0 (l0.length : Int) x8_1 = some r) ∧ Qz (kq ≤ k) ∧ Drawn0 w w')
 case atStart => exact ⟨(0), (0), zs, zs, H', ⟨Nat.le_refl _⟩, zd⟩
 case round =>
  clear H'
  obtain ⟨x3_1, x8_1, rfl, rfl, HA, HK1, ⟨m1, rfl⟩⟩ := hrel
  cases gk with
  | zero => exact absurd HA.out (by simp [Zitake.l0])
  | succ k1 =>
   have H := HA.out
   clear HA
   simp only [Zitake.l0] at H
   by_cases c2 : x8_1 < (l0.length : Int)
   ·rw [if_pos c2] at H
    have c2b0 : decide (x8_1 < (l0.length : Int)) = true := decide_eq_true c2
    clear c2
    by_cases c3 : 0 ≤ x8_1
    ·rw [if_pos c3] at H
     have c3b0 : decide (0 ≤ x8_1) = true := decide_eq_true c3
     clear c3
     by_cases c4 : x8_1 < (l0.length : Int)
     ·rw [if_pos c4] at H
      have c4b0 : decide (x8_1 < (l0.length : Int)) = true := decide_eq_true c4
      clear c4
      have H' := Qz.mk H
      clear H
      have p234 : 0 ≤ (x8_1 : Int) := of_decide_eq_true za
      have q5 : x8_1 < (l0.length : Int) := of_decide_eq_true za
      obtain ⟨ad5, e234, hx5_0⟩ := Kd.at_int HR0.out x8_1 p234 q5
      cases e234
      replace p234 := eq_true p234
      replace q5 := eq_true q5
      go_wp2
      go_roundg k1
      case measure => have := HK1.out; omega
      case rel => exact ⟨(Go.bits .or .i64 (wrap64 (x3_1 * 256)) (wrap64 (rd l0 x8_1))), (wrap64 (x8_1 + 1)), zs, zs, H', ⟨by have := HK1.out; omega⟩, zd⟩
     rw [if_neg c4] at H
     exact absurd H (by simp)
    rw [if_neg c3] at H
    exact absurd H (by simp)
   rw [if_neg c2] at H
   have c2b0 : decide (x8_1 < (l0.length : Int)) = false := decide_eq_false c2
   clear c2
   obtain rfl := Option.some.inj H
   go_wp2
   go_ret
   exact ⟨zs, zd⟩
set_option maxHeartbeats 8000000 in
set_option maxRecDepth 100000 in
theorem ZcEqual_byte.calls (k : Nat) (A0 : Option Addr) (c0 : Nat) (l0 : List Int) (A1 : Option Addr) (c1 : Nat) (l1 : List Int) (r : Bool) (w : World) (hr0 : Kd.C (Kd.int .u8) w A0 l0.length l0) (hc0 : l0.length ≤ c0) (hr1 : Kd.C (Kd.int .u8) w A1 l1.length l1) (hc1 : l1.length ≤ c1) (h : ZcEqual_byte.f k l0 l1 = some r) :
 Calls Try.prog 83 #[.slice A0 l0.length c0, .slice A1 l1.length c1] w fun e w' => e = .returned (.bool r) ∧ Drawn0 w w' := by
 have HR0 := Qz.mk hr0
 have HC0 := Qz.mk hc0
 clear hr0 hc0
 have HR1 := Qz.mk hr1
 have HC1 := Qz.mk hc1
 clear hr1 hc1
 have H : (if (l0.length : Int) = (l1.length : Int) then (ZcEqual_byte.l0 k l0 l1 (l0.length : Int) 0) else (some false)) = some r := h
 clear h
 by_cases c3 : (l0.length : Int) = (l1.length : Int)
 ·rw [if_pos c3] at H
  have c3b0 : ((l0.length : Int) == (l1.length : Int)) = true := beq_iff_eq.mpr c3
  have c3b1 : ((l0.length : Int) != (l1.length : Int)) = false := bne_eq_false_iff_eq.mpr c3
  have c3b2 : (l0.length == l1.length) = true := by first | simpa using c3 | (simp at c3 ⊢; omega)
  clear c3
  have H' := Qz.mk H
  clear H
  go_enter Try.func83, Try.ntmps83
  go_wp2
  repeat (go_quiet (fail); try go_wp2)
  go_loopg [13] k (fun kq v13 w' => ∃ (x13_1 : Int), v13 = .int .i64 x13_1 ∧ Qz (ZcEqual_byte.l0 kq l0 l1 (l0.length : Int) x13_1 = some r) ∧ Qz (kq ≤ k) ∧ Drawn0 w w')
  case atStart => exact ⟨(0), zs, H', ⟨Nat.le_refl _⟩, zd⟩
  case round =>
   clear H'
   try clear c1
   try clear p2
   try clear c3
   try clear c3b0
   try clear c3b1
   try clear c3b2
   obtain ⟨x13_1, rfl, HA, HK1, ⟨m1, rfl⟩⟩ := hrel
   cases gk with
   | zero => exact absurd HA.out (by simp [ZcEqual_byte.l0])
   | succ k1 =>
    have H := HA.out
    clear HA
    simp only [ZcEqual_byte.l0] at H
    by_cases c4 : x13_1 < (l0.length : Int)
    ·rw [if_pos c4] at H
     have c4b0 : decide (x13_1 < (l0.length : Int)) = true := decide_eq_true c4
     clear c4
     by_cases c5 : 0 ≤ x13_1
     ·rw [if_pos c5] at H
      have c5b0 : decide (0 ≤ x13_1) = true := decide_eq_true c5
      clear c5
      by_cases c6 : x13_1 < (l0.length : Int)
      ·rw [if_pos c6] at H
       have c6b0 : decide (x13_1 < (l0.length : Int)) = true := decide_eq_true c6
       clear c6
       by_cases c7 : x13_1 < (l1.length : Int)
       ·rw [if_pos c7] at H
        have c7b0 : decide (x13_1 < (l1.length : Int)) = true := decide_eq_true c7
        clear c7
        by_cases c8 : (rd l0 x13_1) = (rd l1 x13_1)
        ·rw [if_pos c8] at H
         have c8b0 : ((rd l0 x13_1) == (rd l1 x13_1)) = true := beq_iff_eq.mpr c8
         have c8b1 : ((rd l0 x13_1) != (rd l1 x13_1)) = false := bne_eq_false_iff_eq.mpr c8
         clear c8
         have H' := Qz.mk H
         clear H
         have p247 : 0 ≤ (x13_1 : Int) := of_decide_eq_true za
         have q9 : x13_1 < (l0.length : Int) := of_decide_eq_true za
         obtain ⟨ad9, e247, hx9_0⟩ := Kd.at_int HR0.out x13_1 p247 q9
         cases e247
         replace p247 := eq_true p247
         replace q9 := eq_true q9
         have p248 : 0 ≤ (x13_1 : Int) := of_decide_eq_true za
         have q10 : x13_1 < (l1.length : Int) := of_decide_eq_true za
         obtain ⟨ad10, e248, hx10_0⟩ := Kd.at_int HR1.out x13_1 p248 q10
         cases e248
         replace p248 := eq_true p248
         replace q10 := eq_true q10
         go_wp2
         repeat (go_quiet (fail); try go_wp2)
         go_roundg k1
         case measure => have := HK1.out; omega
         case rel => exact ⟨(wrap64 (x13_1 + 1)), zs, H', ⟨by have := HK1.out; omega⟩, zd⟩
        rw [if_neg c8] at H
        have c8b0 : ((rd l0 x13_1) == (rd l1 x13_1)) = false := beq_eq_false_iff_ne.mpr c8
        have c8b1 : ((rd l0 x13_1) != (rd l1 x13_1)) = true := bne_iff_ne.mpr c8
        obtain rfl := Option.some.inj H
        have p247 : 0 ≤ (x13_1 : Int) := of_decide_eq_true za
        have q9 : x13_1 < (l0.length : Int) := of_decide_eq_true za
        obtain ⟨ad9, e247, hx9_0⟩ := Kd.at_int HR0.out x13_1 p247 q9
        cases e247
        replace p247 := eq_true p247
        replace q9 := eq_true q9
        have p248 : 0 ≤ (x13_1 : Int) := of_decide_eq_true za
        have q10 : x13_1 < (l1.length : Int) := of_decide_eq_true za
        obtain ⟨ad10, e248, hx10_0⟩ := Kd.at_int HR1.out x13_1 p248 q10
        cases e248
        replace p248 := eq_true p248
        replace q10 := eq_true q10
        go_wp2
        repeat (go_quiet (fail); try go_wp2)
        go_ret
        exact ⟨zs, zd⟩
       rw [if_neg c7] at H
       exact absurd H (by simp)
      rw [if_neg c6] at H
      exact absurd H (by simp)
     rw [if_neg c5] at H
     exact absurd H (by simp)
    rw [if_neg c4] at H
    have c4b0 : decide (x13_1 < (l0.length : Int)) = false := decide_eq_false c4
    clear c4
    obtain rfl := Option.some.inj H
    go_wp2
    repeat (go_quiet (fail); try go_wp2)
    go_ret
    exact ⟨zs, zd⟩
 rw [if_neg c3] at H
 have c3b0 : ((l0.length : Int) == (l1.length : Int)) = false := beq_eq_false_iff_ne.mpr c3
 have c3b1 : ((l0.length : Int) != (l1.length : Int)) = true := bne_iff_ne.mpr c3
 have c3b2 : (l0.length == l1.length) = false := by first | simpa using c3 | (simp at c3 ⊢; omega)
 obtain rfl := Option.some.inj H
 go_enter Try.func83, Try.ntmps83
 go_wp2
 repeat (go_quiet (fail); try go_wp2)
 go_ret
 exact ⟨zs, zd⟩
set_option maxHeartbeats 8000000 in
set_option maxRecDepth 100000 in
theorem Ziput.calls (k : Nat) (P0_ : Nat → Prop) (u9000_ : Value) (l0 : List Int) (a1 : Int) (a2 : Int) (r : List Int) (w0 w : World) (hB : Below w0.heap.size w0 w) (ho0 : Kd.R (Kd.int .u8) 5 w w0.heap.size P0_ u9000_ l0) (h : Ziput.f k l0 a1 a2 = some r) :
 Calls Try.prog 99 #[u9000_, .int .i64 a1, .int .i64 a2] w fun e w' => ∃ v0_ : Value, e = .returned (v0_) ∧ Kd.R (Kd.int .u8) 5 w' w0.heap.size (fun k_ => (P0_ k_ ∨ w.heap.size ≤ k_)) v0_ r ∧ Below w0.heap.size w0 w' ∧ Kept w w' (fun k_ => P0_ k_) := by
 have HO0 := Qz.mk (show Kd.R (Kd.int .u8) 5 w w0.heap.size (fun k_ => (P0_ k_ ∨ w.heap.size ≤ k_)) u9000_ l0 from Kd.Qw ho0 (fun k_ hk => (.inl hk)))
 have HK := Qz.mk (Kept.refl w (fun k_ => P0_ k_))
 have HW0 := Qz.mk hB.size
 have HB := Qz.mk hB
 clear hB
 have H : (Ziput.l0 k l0 a1 (wrap64 (a2 - 1))) = some r := h
 clear h
 have H' := Qz.mk H
 clear H
 go_enter Try.func99, Try.ntmps99
 go_wp2
 go_loopg [0, 7] k (fun kq v0 v7 w' => ∃ (x0_1 : List Int) (x7_1 : Int), v7 = .int .i64 x7_1 ∧ Qz (Ziput.l0 kq x0_1 a1 x7_1 = some r) ∧ Qz (kq ≤ k) ∧ Qz (Kd.R (Kd.int .u8) 5 w' w0.heap.size (fun k_ => (P0_ k_ ∨ w.heap.size ≤ k_)) v0 x0_1) ∧ Qz (Kept w w' (fun k_ => P0_ k_)) ∧ Qz (Below w0.heap.size w0 w'))
 case atStart => exact ⟨(l0), (wrap64 (a2 - 1)), zs, H', ⟨Nat.le_refl _⟩, ⟨zr HO0⟩, ⟨by repeat (first | (with_reducible first | exact HK.out | apply Kept.alloc | apply Kept.drewN | apply Kept.drew) | exact HK.out)⟩, ⟨zb⟩⟩
 case round =>
  clear H'
  try clear p2
  obtain ⟨x0_1, x7_1, rfl, HA, HK1, HO_0, HK, HB⟩ := hrel
  cases gk with
  | zero => exact absurd HA.out (by simp [Ziput.l0])
  | succ k1 =>
   have H := HA.out
   clear HA
   simp only [Ziput.l0] at H
   by_cases c4 : x7_1 ≥ 0
   ·rw [if_pos c4] at H
    have c4b0 : decide (0 ≤ x7_1) = true := decide_eq_true c4
    clear c4
    obtain ⟨ji5, hji5⟩ : ∃ j_ : Int, (wrap64 (8 * x7_1)) = j_ := ⟨_, rfl⟩
    replace H : (if 0 ≤ (ji5) then (if x0_1.length < 140737488355328 then (Ziput.l0 k1 (x0_1 ++ [(shr .i64 a1 (ji5)) % 256]) a1 (wrap64 (x7_1 - 1))) else (none)) else (none)) = some r := by first | (rw [hji5] at H; exact H) | (simp only [hji5] at H ⊢; exact H)
    have hji5w : (IntKind.i64.wrap (8 * x7_1)) = ji5 := (Qar _).trans hji5
    by_cases c6 : 0 ≤ (ji5)
    ·rw [if_pos c6] at H
     have c6b0 := eq_true c6
     have c6b1 : decide (0 ≤ (ji5)) = true := decide_eq_true c6
     clear c6
     obtain ⟨ji7, hji7⟩ : ∃ j_ : Int, (shr .i64 a1 (ji5)) = j_ := ⟨_, rfl⟩
     replace H : (if x0_1.length < 140737488355328 then (Ziput.l0 k1 (x0_1 ++ [(ji7) % 256]) a1 (wrap64 (x7_1 - 1))) else (none)) = some r := by first | (rw [hji7] at H; exact H) | (simp only [hji7] at H ⊢; exact H)
     have hji7_ : (a1 / 2 ^ min (ji5).toNat 64) = ji7 := hji7
     have hji7z : (ji5) ≤ 64 → (a1 / 2 ^ (ji5).toNat) = ji7 := shr_small hji7
     by_cases c8 : x0_1.length < 140737488355328
     ·rw [if_pos c8] at H
      have LMc8 := Qz.mk c8
      clear c8
      obtain ⟨y3, hy3⟩ : ∃ y_ : List Int, y_ = (x0_1 ++ [(ji7) % 256]) := ⟨_, rfl⟩
      replace H : (Ziput.l0 k1 y3 a1 (wrap64 (x7_1 - 1))) = some r := by first | (rw [hy3]; with_reducible exact H) | (have H2_ := (Option.bind_some _ _).symm.trans H; rw [hy3]; with_reducible exact H2_) | (have H2_ := (Option.bind_some _ _).symm.trans H; with_reducible exact H2_) | with_reducible exact H | (rw [hy3]; exact H) | exact H
      have Ny3 := Qz.mk hy3
      clear hy3
      have H' := Qz.mk H
      clear H
      go_wp2_with (first | ((with_reducible refine gate_builtin (b := .append) (xs := #[.tmp 14, .tmp 20]) rfl ?_); at_builtin; refine Kd.R_append (Kd.int .u8) (w0 := w0) w0.heap.size rfl (.tmp 14) (.tmp 20) 22 5 (.int .u8 0) 1 rfl Try.underlying22 info5 rfl (by decide) (by omega) u0 x0_1 ((ji7) % 256) [.int .u8 ((ji7) % 256)] (fun k_ => (P0_ k_ ∨ w.heap.size ≤ k_)) (fun _ => False) rfl rfl ?aP (fun _ hk => hk.elim) ?aF ?aO ?aB ?aS ?aL ?_; (case aP => exact rfl); (case aB => exact zb); (case aF => exact (fun k_ hk => (.inr (Nat.le_trans (by first | exact HK.out.1 | exact (show Kept w _ (fun k_ => P0_ k_) from by repeat (first | (with_reducible first | exact HK.out | apply Kept.alloc | apply Kept.drewN | apply Kept.drew) | exact HK.out)).1) hk)))); (case aO => exact (zr HO_0)); (case aS => exact (Qp zb)); (case aL => have := LMc8.out; omega); intro v11 w9 ho hb hg hat; rw [← Ny3.out] at ho; have n0_ := Qz.mk (hb); have n1_ := Qz.mk (Kept.of_grown (S := (fun k_ => P0_ k_)) hg (by repeat (first | (with_reducible first | exact HK.out | apply Kept.alloc | apply Kept.drewN | apply Kept.drew) | exact HK.out)) (fun k_ e_ => (HO_0.out.1 k_ e_))); have n2_ := Qz.mk (ho); clear HB; clear HK; clear HO_0; have HB := n0_; have HK := n1_; have HO10 := n2_; clear n0_ n1_ n2_; clear ho hb hg hat))
      go_roundg k1
      case measure => have := HK1.out; omega
      case rel => exact ⟨(y3), (wrap64 (x7_1 - 1)), zs, H', ⟨by have := HK1.out; omega⟩, ⟨zr HO10⟩, ⟨by repeat (first | (with_reducible first | exact HK.out | apply Kept.alloc | apply Kept.drewN | apply Kept.drew) | exact HK.out)⟩, ⟨zb⟩⟩
     rw [if_neg c8] at H
     exact absurd H (by simp)
    rw [if_neg c6] at H
    exact absurd H (by simp)
   rw [if_neg c4] at H
   have c4b0 : decide (0 ≤ x7_1) = false := decide_eq_false c4
   clear c4
   obtain rfl := Option.some.inj H
   go_wp2
   go_ret
   exact ⟨_, ze, by refine zR ?_; exact HO_0.out, zb, by repeat (first | (with_reducible first | exact HK.out | apply Kept.alloc | apply Kept.drewN | apply Kept.drew) | exact HK.out)⟩
set_option maxHeartbeats 8000000 in
set_option maxRecDepth 100000 in
theorem Ziflag.calls (a0 : Bool) (a1 : Int) (r : Int) (w : World) (h : Ziflag.f a0 a1 = some r) :
 Calls Try.prog 100 #[.bool a0, .int .i64 a1] w fun e w' => e = .returned (.int .i64 r) ∧ Drawn0 w w' := by
 have H : (if a0 = true then (some a1) else (some 0)) = some r := h
 clear h
 by_cases c3 : a0 = true
 ·subst c3
  have H1 : (some a1) = some r := by rw [if_pos rfl] at H; exact H
  clear H
  have H := H1
  clear H1
  obtain rfl := Option.some.inj H
  go_enter Try.func100, Try.ntmps100
  go_wp2
  go_ret
  exact ⟨zs, zd⟩
 replace c3 := Bool.eq_false_iff.mpr c3
 subst c3
 have H1 : (some 0) = some r := by rw [if_neg (show ¬ (false = true) by decide)] at H; exact H
 clear H
 have H := H1
 clear H1
 obtain rfl := Option.some.inj H
 go_enter Try.func100, Try.ntmps100
 go_wp2
 go_ret
 exact ⟨zs, zd⟩
set_option maxHeartbeats 8000000 in
set_option maxRecDepth 100000 in
theorem ZiSumBytes.calls (k : Nat) (A0 : Option Addr) (c0 : Nat) (l0 : List Int) (r : Int) (w : World) (hr0 : Kd.C (Kd.int .u8) w A0 l0.length l0) (hc0 : l0.length ≤ c0) (h : ZiSumBytes.f k l0 = some r) :
 Calls Try.prog 101 #[.slice A0 l0.length c0] w fun e w' => e = .returned (.int .i64 r) ∧ Drawn0 w w' := by
 have HR0 := Qz.mk hr0
 have HC0 := Qz.mk hc0
 clear hr0 hc0
 have H : (ZiSumBytes.l0 k 9 l0 (l0.length : Int) 0) = some r := h
 clear h
 have H' := Qz.mk H
 clear H
 go_enter Try.func101, Try.ntmps101
 go_wp2
 go_loopg [3, 8] k (fun kq v3 v8 w' => ∃ (x3_1 : Int) (x8_1 : Int), v3 = .int .i64 x3_1 ∧ v8 = .int .i64 x8_1 ∧ Qz (ZiSumBytes.l0 kq x3_1 l0 (l0.length : Int) x8_1 = some r) ∧ Qz (kq ≤ k) ∧ Drawn0 w w')
 case atStart => exact ⟨(9), (0), zs, zs, H', ⟨Nat.le_refl _⟩, zd⟩
 case round =>
  clear H'
  try clear c1
  obtain ⟨x3_1, x8_1, rfl, rfl, HA, HK1, ⟨m1, rfl⟩⟩ := hrel
  cases gk with
  | zero => exact absurd HA.out (by simp [ZiSumBytes.l0])
  | succ k1 =>
   have H := HA.out
   clear HA
   simp only [ZiSumBytes.l0] at H
   by_cases c2 : x8_1 < (l0.length : Int)
   ·rw [if_pos c2] at H
    have c2b0 : decide (x8_1 < (l0.length : Int)) = true := decide_eq_true c2
    clear c2
    by_cases c3 : 0 ≤ x8_1
    ·rw [if_pos c3] at H
     have c3b0 : decide (0 ≤ x8_1) = true := decide_eq_true c3
     clear c3
     by_cases c4 : x8_1 < (l0.length : Int)
     ·rw [if_pos c4] at H
      have c4b0 : decide (x8_1 < (l0.length : Int)) = true := decide_eq_true c4
      clear c4
      have H' := Qz.mk H
      clear H
      have p252 : 0 ≤ (x8_1 : Int) := of_decide_eq_true za
      have q5 : x8_1 < (l0.length : Int) := of_decide_eq_true za
      obtain ⟨ad5, e252, hx5_0⟩ := Kd.at_int HR0.out x8_1 p252 q5
      cases e252
      replace p252 := eq_true p252
      replace q5 := eq_true q5
      go_wp2
      go_roundg k1
      case measure => have := HK1.out; omega
      case rel => exact ⟨(Int.tmod (wrap64 ((wrap64 ((wrap64 (x3_1 * 269)) + (wrap64 (rd l0 x8_1)))) + 1)) 65521), (wrap64 (x8_1 + 1)), zs, zs, H', ⟨by have := HK1.out; omega⟩, zd⟩
     rw [if_neg c4] at H
     exact absurd H (by simp)
    rw [if_neg c3] at H
    exact absurd H (by simp)
   rw [if_neg c2] at H
   have c2b0 : decide (x8_1 < (l0.length : Int)) = false := decide_eq_false c2
   clear c2
   obtain rfl := Option.some.inj H
   go_wp2
   go_ret
   exact ⟨zs, zd⟩
def ZiRec_pack.T1 : Bool × List (List Nat × List Nat) := (true, [([], []), ([0], [0]), ([1], [1]), ([], []), ([3], [3]), ([2, 4, 2], [2, 4]), ([], []), ([6], [6]), ([5, 7, 5], [5, 7]), ([], []), ([9], [9]), ([10, 8], [10]), ([], []), ([12], [12]), ([13, 11], [13]), ([11, 14], [11, 14]), ([8, 15, 14], [8, 15]), ([16, 16, 0, 1, 2, 3, 4, 5, 6, 7, 8, 9, 10, 11, 12, 13, 14, 15, 16], [16])])
def ZiRec_pack.B1 : List Nat := [0, 1, 3, 0, 8, 31, 0, 64, 255, 0, 512, 2047, 0, 4096, 16383, 32767, 65535, 131071]
theorem ZiRec_pack.tab1 : rtab .any (opsOf Try.f84 1) = ZiRec_pack.T1 := by kernel_rfl
theorem ZiRec_pack.bits1 : waitsOk ZiRec_pack.T1.2 ZiRec_pack.B1 = true := by kernel_rfl
def ZiRec_pack.T2 : Bool × List (List Nat × List Nat) := (true, [([], []), ([], []), ([1], [1]), ([0, 2], [0, 2]), ([], []), ([4], [4]), ([3, 5, 3], [3, 5]), ([], []), ([7], [7]), ([6, 8, 6], [6, 8]), ([9, 9, 0, 1, 2, 3, 4, 5, 6, 7, 8, 9], [0, 9])])
def ZiRec_pack.B2 : List Nat := [0, 0, 2, 7, 0, 16, 63, 0, 128, 511, 1023]
theorem ZiRec_pack.tab2 : rtab .any (opsOf Try.f84 2) = ZiRec_pack.T2 := by kernel_rfl
theorem ZiRec_pack.bits2 : waitsOk ZiRec_pack.T2.2 ZiRec_pack.B2 = true := by kernel_rfl
set_option maxHeartbeats 8000000 in
set_option maxRecDepth 100000 in
theorem ZiRec_pack.calls (k : Nat) (a0_0 : Int) (a0_1 : Int) (a0_2 : Int) (a0_3 : Bool) (a0_4 : Int) (a0_5 : Bool) (a0_6 : Int) (a0_7 : Int) (r : List Int) (w : World) (h : ZiRec_pack.f k a0_0 a0_1 a0_2 a0_3 a0_4 a0_5 a0_6 a0_7 = some r) :
 Calls Try.prog 84 #[.agg #[.int .i64 a0_0, .int .i64 a0_1, .int .i64 a0_2, .bool a0_3, .int .i64 a0_4, .bool a0_5, .int .i64 a0_6, .int .i64 a0_7]] w fun e w' => ∃ v0_ : Value, e = .returned (v0_) ∧ Kd.R (Kd.int .u8) 5 w' w.heap.size (fun _ => True) v0_ r ∧ Below w.heap.size w w' := by
 have hu48 := Try.underlying48
 have HB := Qz.mk (Below.refl w.heap.size w)
 have H : ((Ziput.f k ([] : List Int) a0_0 1).bind fun t46 => ((Ziput.f k t46 a0_1 2).bind fun t45 => ((Ziput.f k t45 a0_2 1).bind fun t42 => ((Ziflag.f a0_3 1).bind fun t44 => ((Ziflag.f a0_5 2).bind fun t43 => ((Ziput.f k t42 (wrap64 (t44 + t43)) 1).bind fun t41 => ((Ziput.f k t41 a0_4 2).bind fun t39 => ((Ziput.f k t39 a0_6 2).bind fun t38 => ((Ziput.f k t38 a0_7 2).bind fun t35 => ((ZiSumBytes.f k t35).bind fun t36 => ((Ziput.f k t35 t36 2).bind fun t37 => (some t37)))))))))))) = some r := h
 clear h
 replace H := Option.bind_eq_some_iff.mp H
 obtain ⟨t46, A20, H⟩ := H
 replace H : ((Ziput.f k t46 a0_1 2).bind fun t45 => ((Ziput.f k t45 a0_2 1).bind fun t42 => ((Ziflag.f a0_3 1).bind fun t44 => ((Ziflag.f a0_5 2).bind fun t43 => ((Ziput.f k t42 (wrap64 (t44 + t43)) 1).bind fun t41 => ((Ziput.f k t41 a0_4 2).bind fun t39 => ((Ziput.f k t39 a0_6 2).bind fun t38 => ((Ziput.f k t38 a0_7 2).bind fun t35 => ((ZiSumBytes.f k t35).bind fun t36 => ((Ziput.f k t35 t36 2).bind fun t37 => (some t37))))))))))) = some r := H
 have A2 := Qz.mk A20
 clear A20
 replace H := Option.bind_eq_some_iff.mp H
 obtain ⟨t45, A30, H⟩ := H
 replace H : ((Ziput.f k t45 a0_2 1).bind fun t42 => ((Ziflag.f a0_3 1).bind fun t44 => ((Ziflag.f a0_5 2).bind fun t43 => ((Ziput.f k t42 (wrap64 (t44 + t43)) 1).bind fun t41 => ((Ziput.f k t41 a0_4 2).bind fun t39 => ((Ziput.f k t39 a0_6 2).bind fun t38 => ((Ziput.f k t38 a0_7 2).bind fun t35 => ((ZiSumBytes.f k t35).bind fun t36 => ((Ziput.f k t35 t36 2).bind fun t37 => (some t37)))))))))) = some r := H
 have A3 := Qz.mk A30
 clear A30
 replace H := Option.bind_eq_some_iff.mp H
 obtain ⟨t42, A40, H⟩ := H
 replace H : ((Ziflag.f a0_3 1).bind fun t44 => ((Ziflag.f a0_5 2).bind fun t43 => ((Ziput.f k t42 (wrap64 (t44 + t43)) 1).bind fun t41 => ((Ziput.f k t41 a0_4 2).bind fun t39 => ((Ziput.f k t39 a0_6 2).bind fun t38 => ((Ziput.f k t38 a0_7 2).bind fun t35 => ((ZiSumBytes.f k t35).bind fun t36 => ((Ziput.f k t35 t36 2).bind fun t37 => (some t37))))))))) = some r := H
 have A4 := Qz.mk A40
 clear A40
 replace H := Option.bind_eq_some_iff.mp H
 obtain ⟨t44, A50, H⟩ := H
 replace H : ((Ziflag.f a0_5 2).bind fun t43 => ((Ziput.f k t42 (wrap64 (t44 + t43)) 1).bind fun t41 => ((Ziput.f k t41 a0_4 2).bind fun t39 => ((Ziput.f k t39 a0_6 2).bind fun t38 => ((Ziput.f k t38 a0_7 2).bind fun t35 => ((ZiSumBytes.f k t35).bind fun t36 => ((Ziput.f k t35 t36 2).bind fun t37 => (some t37)))))))) = some r := H
 have A5 := Qz.mk A50
 clear A50
 replace H := Option.bind_eq_some_iff.mp H
 obtain ⟨t43, A60, H⟩ := H
 replace H : ((Ziput.f k t42 (wrap64 (t44 + t43)) 1).bind fun t41 => ((Ziput.f k t41 a0_4 2).bind fun t39 => ((Ziput.f k t39 a0_6 2).bind fun t38 => ((Ziput.f k t38 a0_7 2).bind fun t35 => ((ZiSumBytes.f k t35).bind fun t36 => ((Ziput.f k t35 t36 2).bind fun t37 => (some t37))))))) = some r := H
 have A6 := Qz.mk A60
 clear A60
 replace H := Option.bind_eq_some_iff.mp H
 obtain ⟨t41, A70, H⟩ := H
 replace H : ((Ziput.f k t41 a0_4 2).bind fun t39 => ((Ziput.f k t39 a0_6 2).bind fun t38 => ((Ziput.f k t38 a0_7 2).bind fun t35 => ((ZiSumBytes.f k t35).bind fun t36 => ((Ziput.f k t35 t36 2).bind fun t37 => (some t37)))))) = some r := H
 have A7 := Qz.mk A70
 clear A70
 replace H := Option.bind_eq_some_iff.mp H
 obtain ⟨t39, A80, H⟩ := H
 replace H : ((Ziput.f k t39 a0_6 2).bind fun t38 => ((Ziput.f k t38 a0_7 2).bind fun t35 => ((ZiSumBytes.f k t35).bind fun t36 => ((Ziput.f k t35 t36 2).bind fun t37 => (some t37))))) = some r := H
 have A8 := Qz.mk A80
 clear A80
 replace H := Option.bind_eq_some_iff.mp H
 obtain ⟨t38, A90, H⟩ := H
 replace H : ((Ziput.f k t38 a0_7 2).bind fun t35 => ((ZiSumBytes.f k t35).bind fun t36 => ((Ziput.f k t35 t36 2).bind fun t37 => (some t37)))) = some r := H
 have A9 := Qz.mk A90
 clear A90
 replace H := Option.bind_eq_some_iff.mp H
 obtain ⟨t35, A56, H⟩ := H
 replace H : ((ZiSumBytes.f k t35).bind fun t36 => ((Ziput.f k t35 t36 2).bind fun t37 => (some t37))) = some r := H
 have A10 := Qz.mk A56
 clear A56
 replace H := Option.bind_eq_some_iff.mp H
 obtain ⟨t36, A57, H⟩ := H
 replace H : ((Ziput.f k t35 t36 2).bind fun t37 => (some t37)) = some r := H
 have A11 := Qz.mk A57
 clear A57
 replace H := Option.bind_eq_some_iff.mp H
 obtain ⟨t37, A58, H⟩ := H
 replace H : (some t37) = some r := H
 have A12 := Qz.mk A58
 clear A58
 obtain rfl := Option.some.inj H
 go_enter Try.func84, Try.ntmps84
 try go_wp2_with (first | ((with_reducible refine gate_dst (N := 1) rfl ?_); refine box_event ?hg (N := 1) ?hd (cs := #[.int .i64 a0_0, .int .i64 a0_1, .int .i64 a0_2, .bool a0_3, .int .i64 a0_4, .bool a0_5, .int .i64 a0_6, .int .i64 a0_7]) (t := 48) ?hr ?_; (case hd => rfl); (case hg => rfl); (case hr => first | (go_simp; done) | (go_simp; rfl)); intro gb31 hg w13 hbox hb; have n0_ := Qz.mk (Qq zb hb); have n1_ := Qz.mk (hbox); have n2_ := Qz.mk ((zh hg : w.heap.size ≤ gb31)); have n3_ := n2_; clear HB; have HB := n0_; have BK31 := n1_; have GW31 := n2_; have GE31 := n3_; clear n0_ n1_ n2_ n3_; clear hb hbox hg))
 have n0_ := Qz.mk (Qg BK31.out)
 have n1_ := Qz.mk (Qb HB.out)
 clear BK31
 clear HB
 have BK31 := n0_
 have HB := n1_
 clear n0_ n1_
 refine start_ (n := 18) (S := fun w' => w'.cell? ⟨gb31, 0, none⟩ = some (.int .i64 a0_0) ∧ w'.cell? ⟨gb31, 1, none⟩ = some (.int .i64 a0_1) ∧ w'.cell? ⟨gb31, 2, none⟩ = some (.int .i64 a0_2) ∧ w'.cell? ⟨gb31, 3, none⟩ = some (.bool a0_3) ∧ w'.cell? ⟨gb31, 4, none⟩ = some (.int .i64 a0_4) ∧ w'.cell? ⟨gb31, 5, none⟩ = some (.bool a0_5) ∧ w'.cell? ⟨gb31, 6, none⟩ = some (.int .i64 a0_6) ∧ w'.cell? ⟨gb31, 7, none⟩ = some (.int .i64 a0_7)) (ds := []) #[Z, Z, Z, Z, Z, Z, Z, Z, Z, Z, Z, Z, Z, Z, Z, Z, Z, Z] (by kernel_rfl) rfl rfl ⟨(Qh BK31.out 0).trans rfl, (Qh BK31.out 1).trans rfl, (Qh BK31.out 2).trans rfl, (Qh BK31.out 3).trans rfl, (Qh BK31.out 4).trans rfl, (Qh BK31.out 5).trans rfl, (Qh BK31.out 6).trans rfl, (Qh BK31.out 7).trans rfl⟩ (fun hHeld => ?_); refine with_tabW ZiRec_pack.tab1 ZiRec_pack.bits1 (fun HT_ HW_ => ?_)
 generalize w13.drew = w14 at BK31 HB hHeld ⊢
 refine zp 0 4 ?_; refine zp 3 7 ?_; refine zp 6 10 ?_; refine zp 9 13 ?_; refine zp 12 16 ?_; refine zt 1 5 ?_; refine zt 4 8 ?_; refine zt 7 11 ?_; refine zt 10 14 ?_; refine zt 13 17 ?_
 refine one_ (i := 2) (N := some 6) #[Y, Y, Y, Y, Y, Z, Y, Y, Z, Y, Y, Z, Y, Y, Z, Z, Z, Z] rfl rfl (one_of HT_.out (by kernel_rfl)) (by decide) (fun K hK => ?_)
 refine goes_ Try.func99 (by kernel_rfl) rfl #[.slice none 0 0, .int .i64 a0_0, .int .i64 1] (by rfl) rfl rfl zm ?_
 refine (Ziput.calls k (fun k_ => some k_ = (.slice none 0 0 : Value).ownBlock) (.slice none 0 0) ([] : List Int) a0_0 1 t46 w _ ?side1 ?side2 A2.out).mono ?_
 (case side1 => exact yd0)
 (case side2 => exact Kd.R_nil _ _ _ _ _)
 rintro e w15 ⟨v61, rfl, ho0, hb, hkp⟩
 refine ⟨_, rfl, ?_⟩
 have n0_ := Qz.mk (blk_kept zk hkp (fun hs_ => (fun e_ => by simp [Value.ownBlock] at e_) hs_))
 have n1_ := Qz.mk (Kd.Qw (ok' := fun k_ => True) ho0 (fun k_ hk_ => trivial))
 have n2_ := Qz.mk (hb)
 clear BK31
 clear HB
 have BK31 := n0_
 have HO51 := n1_
 have HB := n2_
 clear n0_ n1_ n2_
 (try clear hb)
 (try clear hkp)
 (try clear ho0)
 obtain ⟨Ao16, co16, eo16⟩ := Kd.R_slice HO51.out
 (first | subst eo16 | (injection eo16 with f1_ f2_ f3_; have f4_ := f1_.symm; have f5_ := f3_.symm; clear f1_ f2_ f3_; subst f4_; subst f5_))
 refine hK.out _ _ ⟨(Qh BK31.out 0).trans rfl, (Qh BK31.out 1).trans rfl, (Qh BK31.out 2).trans rfl, (Qh BK31.out 3).trans rfl, (Qh BK31.out 4).trans rfl, (Qh BK31.out 5).trans rfl, (Qh BK31.out 6).trans rfl, (Qh BK31.out 7).trans rfl⟩ (fun hHeld => ?_)
 clear hK K
 refine norm_ (a' := ?_) ?_ ?_
 rotate_left
 ·show Act.put _ (some 6) _ = _
  simp only [Act.put, List.setIfInBounds_toArray, List.set_cons_zero, List.set_cons_succ, Qar, Qas]
  rfl
 refine one_ (i := 5) (N := some 9) #[Y, Y, Y, Y, Y, Y, Y, Y, Z, Y, Y, Z, Y, Y, Z, Z, Z, Z] rfl rfl (one_of HT_.out (by kernel_rfl)) (by decide) (fun K hK => ?_)
 refine goes_ Try.func99 (by kernel_rfl) rfl #[.slice Ao16 t46.length co16, .int .i64 a0_1, .int .i64 2] (by rfl) rfl rfl zm ?_
 with_reducible refine (Ziput.calls k (fun k_ => some k_ = (.slice Ao16 t46.length co16 : Value).ownBlock) (.slice Ao16 t46.length co16) t46 a0_1 2 t45 w _ ?side1 ?side2 A3.out).mono ?_
 (case side1 => exact yd0)
 (case side2 => exact Kd.R_tight rfl HO51.out)
 rintro e w17 ⟨v62, rfl, ho0, hb, hkp⟩
 refine ⟨_, rfl, ?_⟩
 have n0_ := Qz.mk (blk_kept zk hkp (fun hs_ => (fun e_ => (Kd.R_ne HO51.out BK31.out (by decide)) e_) hs_))
 have n1_ := Qz.mk (Kd.Qw (ok' := fun k_ => True) ho0 (fun k_ hk_ => trivial))
 have n2_ := Qz.mk (hb)
 clear BK31
 clear HB
 clear HO51
 have BK31 := n0_
 have HO52 := n1_
 have HB := n2_
 clear n0_ n1_ n2_
 (try clear hb)
 (try clear hkp)
 (try clear ho0)
 obtain ⟨Ao18, co18, eo18⟩ := Kd.R_slice HO52.out
 (first | subst eo18 | (injection eo18 with f1_ f2_ f3_; have f4_ := f1_.symm; have f5_ := f3_.symm; clear f1_ f2_ f3_; subst f4_; subst f5_))
 refine hK.out _ _ ⟨(Qh BK31.out 0).trans rfl, (Qh BK31.out 1).trans rfl, (Qh BK31.out 2).trans rfl, (Qh BK31.out 3).trans rfl, (Qh BK31.out 4).trans rfl, (Qh BK31.out 5).trans rfl, (Qh BK31.out 6).trans rfl, (Qh BK31.out 7).trans rfl⟩ (fun hHeld => ?_)
 clear hK K
 refine norm_ (a' := ?_) ?_ ?_
 rotate_left
 ·show Act.put _ (some 9) _ = _
  simp only [Act.put, List.setIfInBounds_toArray, List.set_cons_zero, List.set_cons_succ, Qar, Qas]
  rfl
 refine one_ (i := 8) (N := some 12) #[Y, Y, Y, Y, Y, Y, Y, Y, Y, Y, Y, Z, Y, Y, Z, Z, Z, Z] rfl rfl (one_of HT_.out (by kernel_rfl)) (by decide) (fun K hK => ?_)
 refine goes_ Try.func99 (by kernel_rfl) rfl #[.slice Ao18 t45.length co18, .int .i64 a0_2, .int .i64 1] (by rfl) rfl rfl zm ?_
 with_reducible refine (Ziput.calls k (fun k_ => some k_ = (.slice Ao18 t45.length co18 : Value).ownBlock) (.slice Ao18 t45.length co18) t45 a0_2 1 t42 w _ ?side1 ?side2 A4.out).mono ?_
 (case side1 => exact yd0)
 (case side2 => exact Kd.R_tight rfl HO52.out)
 rintro e w19 ⟨v63, rfl, ho0, hb, hkp⟩
 refine ⟨_, rfl, ?_⟩
 have n0_ := Qz.mk (blk_kept zk hkp (fun hs_ => (fun e_ => (Kd.R_ne HO52.out BK31.out (by decide)) e_) hs_))
 have n1_ := Qz.mk (Kd.Qw (ok' := fun k_ => True) ho0 (fun k_ hk_ => trivial))
 have n2_ := Qz.mk (hb)
 clear BK31
 clear HB
 clear HO52
 have BK31 := n0_
 have HO53 := n1_
 have HB := n2_
 clear n0_ n1_ n2_
 (try clear hb)
 (try clear hkp)
 (try clear ho0)
 refine hK.out _ _ ⟨(Qh BK31.out 0).trans rfl, (Qh BK31.out 1).trans rfl, (Qh BK31.out 2).trans rfl, (Qh BK31.out 3).trans rfl, (Qh BK31.out 4).trans rfl, (Qh BK31.out 5).trans rfl, (Qh BK31.out 6).trans rfl, (Qh BK31.out 7).trans rfl⟩ (fun hHeld => ?_)
 clear hK K
 refine norm_ (a' := ?_) ?_ ?_
 rotate_left
 ·show Act.put _ (some 12) _ = _
  simp only [Act.put, List.setIfInBounds_toArray, List.set_cons_zero, List.set_cons_succ, Qar, Qas]
  rfl
 refine one_ (i := 11) (N := some 15) #[Y, Y, Y, Y, Y, Y, Y, Y, Y, Y, Y, Y, Y, Y, Z, Z, Z, Z] rfl rfl (one_of HT_.out (by kernel_rfl)) (by decide) (fun K hK => ?_)
 refine goes_ Try.func100 (by kernel_rfl) rfl #[.bool a0_3, .int .i64 1] (by rfl) rfl rfl zm ?_
 with_reducible refine (Ziflag.calls a0_3 1 t44 _ A5.out).mono ?_
 rintro e w' ⟨rfl, ⟨nd, rfl⟩⟩
 refine ⟨_, rfl, ?_⟩
 refine hK.out _ _ ⟨(Qh BK31.out 0).trans rfl, (Qh BK31.out 1).trans rfl, (Qh BK31.out 2).trans rfl, (Qh BK31.out 3).trans rfl, (Qh BK31.out 4).trans rfl, (Qh BK31.out 5).trans rfl, (Qh BK31.out 6).trans rfl, (Qh BK31.out 7).trans rfl⟩ (fun hHeld => ?_)
 clear hK K
 refine norm_ (a' := ?_) ?_ ?_
 rotate_left
 ·show Act.put _ (some 15) _ = _
  simp only [Act.put, List.setIfInBounds_toArray, List.set_cons_zero, List.set_cons_succ, Qar, Qas]
  rfl
 refine one_ (i := 14) (N := some 18) #[Y, Y, Y, Y, Y, Y, Y, Y, Y, Y, Y, Y, Y, Y, Y, Z, Z, Z] rfl rfl (one_of HT_.out (by kernel_rfl)) (by decide) (fun K hK => ?_)
 refine goes_ Try.func100 (by kernel_rfl) rfl #[.bool a0_5, .int .i64 2] (by rfl) rfl rfl zm ?_
 with_reducible refine (Ziflag.calls a0_5 2 t43 _ A6.out).mono ?_
 rintro e w' ⟨rfl, ⟨nd, rfl⟩⟩
 refine ⟨_, rfl, ?_⟩
 obtain ⟨Ao20, co20, eo20⟩ := Kd.R_slice HO53.out
 (first | subst eo20 | (injection eo20 with f1_ f2_ f3_; have f4_ := f1_.symm; have f5_ := f3_.symm; clear f1_ f2_ f3_; subst f4_; subst f5_))
 refine hK.out _ _ ⟨(Qh BK31.out 0).trans rfl, (Qh BK31.out 1).trans rfl, (Qh BK31.out 2).trans rfl, (Qh BK31.out 3).trans rfl, (Qh BK31.out 4).trans rfl, (Qh BK31.out 5).trans rfl, (Qh BK31.out 6).trans rfl, (Qh BK31.out 7).trans rfl⟩ (fun hHeld => ?_)
 clear hK K
 refine norm_ (a' := ?_) ?_ ?_
 rotate_left
 ·show Act.put _ (some 18) _ = _
  simp only [Act.put, List.setIfInBounds_toArray, List.set_cons_zero, List.set_cons_succ, Qar, Qas]
  rfl
 refine zp 15 19 ?_
 refine one_ (i := 16) (N := some 20) #[Y, Y, Y, Y, Y, Y, Y, Y, Y, Y, Y, Y, Y, Y, Y, Y, Y, Z] rfl rfl (one_of HT_.out (by kernel_rfl)) (by decide) (fun K hK => ?_)
 refine goes_ Try.func99 (by kernel_rfl) rfl #[.slice Ao20 t42.length co20, .int .i64 (wrap64 (t44 + t43)), .int .i64 1] (by rfl) rfl rfl zm ?_
 with_reducible refine (Ziput.calls k (fun k_ => some k_ = (.slice Ao20 t42.length co20 : Value).ownBlock) (.slice Ao20 t42.length co20) t42 (wrap64 (t44 + t43)) 1 t41 w _ ?side1 ?side2 A7.out).mono ?_
 (case side1 => exact yd0)
 (case side2 => exact Kd.R_tight rfl HO53.out)
 rintro e w21 ⟨v65, rfl, ho0, hb, hkp⟩
 refine ⟨_, rfl, ?_⟩
 have n0_ := Qz.mk (blk_kept zk hkp (fun hs_ => (fun e_ => (Kd.R_ne HO53.out BK31.out (by decide)) e_) hs_))
 have n1_ := Qz.mk (Kd.Qw (ok' := fun k_ => True) ho0 (fun k_ hk_ => trivial))
 have n2_ := Qz.mk (hb)
 clear BK31
 clear HB
 clear HO53
 have BK31 := n0_
 have HO47 := n1_
 have HB := n2_
 clear n0_ n1_ n2_
 (try clear hb)
 (try clear hkp)
 (try clear ho0)
 refine hK.out _ _ ⟨(Qh BK31.out 0).trans rfl, (Qh BK31.out 1).trans rfl, (Qh BK31.out 2).trans rfl, (Qh BK31.out 3).trans rfl, (Qh BK31.out 4).trans rfl, (Qh BK31.out 5).trans rfl, (Qh BK31.out 6).trans rfl, (Qh BK31.out 7).trans rfl⟩ (fun hHeld => ?_)
 clear hK K
 refine norm_ (a' := ?_) ?_ ?_
 rotate_left
 ·show Act.put _ (some 20) _ = _
  simp only [Act.put, List.setIfInBounds_toArray, List.set_cons_zero, List.set_cons_succ, Qar, Qas]
  rfl
 refine zp 17 3 ?_
 refine done_ (done_of HT_.out (by kernel_rfl)) ?_
 try go_wp2
 have n0_ := Qz.mk (Kd.Qo HO47.out)
 have n1_ := Qz.mk (Qg BK31.out)
 have n2_ := Qz.mk (Qb HB.out)
 clear HO47
 clear BK31
 clear HB
 have HO47 := n0_
 have BK31 := n1_
 have HB := n2_
 clear n0_ n1_ n2_
 obtain ⟨Ao23, co23, eo23⟩ := Kd.R_slice HO47.out
 (first | subst eo23 | (injection eo23 with f1_ f2_ f3_; have f4_ := f1_.symm; have f5_ := f3_.symm; clear f1_ f2_ f3_; subst f4_; subst f5_))
 refine start_ (n := 11) (S := fun w' => w'.cell? ⟨gb31, 0, none⟩ = some (.int .i64 a0_0) ∧ w'.cell? ⟨gb31, 1, none⟩ = some (.int .i64 a0_1) ∧ w'.cell? ⟨gb31, 2, none⟩ = some (.int .i64 a0_2) ∧ w'.cell? ⟨gb31, 3, none⟩ = some (.bool a0_3) ∧ w'.cell? ⟨gb31, 4, none⟩ = some (.int .i64 a0_4) ∧ w'.cell? ⟨gb31, 5, none⟩ = some (.bool a0_5) ∧ w'.cell? ⟨gb31, 6, none⟩ = some (.int .i64 a0_6) ∧ w'.cell? ⟨gb31, 7, none⟩ = some (.int .i64 a0_7)) (ds := []) #[Z, Z, Z, Z, Z, Z, Z, Z, Z, Z, Z] (by kernel_rfl) rfl rfl ⟨(Qh BK31.out 0).trans rfl, (Qh BK31.out 1).trans rfl, (Qh BK31.out 2).trans rfl, (Qh BK31.out 3).trans rfl, (Qh BK31.out 4).trans rfl, (Qh BK31.out 5).trans rfl, (Qh BK31.out 6).trans rfl, (Qh BK31.out 7).trans rfl⟩ (fun hHeld => ?_); refine with_tabW ZiRec_pack.tab2 ZiRec_pack.bits2 (fun HT_ HW_ => ?_)
 generalize w21.drew = w22 at HO47 BK31 HB hHeld ⊢
 refine zp 0 21 ?_; refine zp 1 22 ?_; refine zp 4 25 ?_; refine zp 7 28 ?_; refine zt 2 23 ?_; refine zt 5 26 ?_; refine zt 8 29 ?_
 refine one_ (i := 3) (N := some 24) #[Y, Y, Y, Y, Y, Y, Z, Y, Y, Z, Z] rfl rfl (one_of HT_.out (by kernel_rfl)) (by decide) (fun K hK => ?_)
 refine goes_ Try.func99 (by kernel_rfl) rfl #[.slice Ao23 t41.length co23, .int .i64 a0_4, .int .i64 2] (by rfl) rfl rfl zm ?_
 with_reducible refine (Ziput.calls k (fun k_ => some k_ = (.slice Ao23 t41.length co23 : Value).ownBlock) (.slice Ao23 t41.length co23) t41 a0_4 2 t39 w _ ?side1 ?side2 A8.out).mono ?_
 (case side1 => exact yd0)
 (case side2 => exact Kd.R_tight rfl HO47.out)
 rintro e w24 ⟨v66, rfl, ho0, hb, hkp⟩
 refine ⟨_, rfl, ?_⟩
 have n0_ := Qz.mk (blk_kept zk hkp (fun hs_ => (fun e_ => (Kd.R_ne HO47.out BK31.out (by decide)) e_) hs_))
 have n1_ := Qz.mk (Kd.Qw (ok' := fun k_ => True) ho0 (fun k_ hk_ => trivial))
 have n2_ := Qz.mk (hb)
 clear BK31
 clear HB
 clear HO47
 have BK31 := n0_
 have HO54 := n1_
 have HB := n2_
 clear n0_ n1_ n2_
 (try clear hb)
 (try clear hkp)
 (try clear ho0)
 obtain ⟨Ao25, co25, eo25⟩ := Kd.R_slice HO54.out
 (first | subst eo25 | (injection eo25 with f1_ f2_ f3_; have f4_ := f1_.symm; have f5_ := f3_.symm; clear f1_ f2_ f3_; subst f4_; subst f5_))
 refine hK.out _ _ ⟨(Qh BK31.out 0).trans rfl, (Qh BK31.out 1).trans rfl, (Qh BK31.out 2).trans rfl, (Qh BK31.out 3).trans rfl, (Qh BK31.out 4).trans rfl, (Qh BK31.out 5).trans rfl, (Qh BK31.out 6).trans rfl, (Qh BK31.out 7).trans rfl⟩ (fun hHeld => ?_)
 clear hK K
 refine norm_ (a' := ?_) ?_ ?_
 rotate_left
 ·show Act.put _ (some 24) _ = _
  simp only [Act.put, List.setIfInBounds_toArray, List.set_cons_zero, List.set_cons_succ, Qar, Qas]
  rfl
 refine one_ (i := 6) (N := some 27) #[Y, Y, Y, Y, Y, Y, Y, Y, Y, Z, Z] rfl rfl (one_of HT_.out (by kernel_rfl)) (by decide) (fun K hK => ?_)
 refine goes_ Try.func99 (by kernel_rfl) rfl #[.slice Ao25 t39.length co25, .int .i64 a0_6, .int .i64 2] (by rfl) rfl rfl zm ?_
 with_reducible refine (Ziput.calls k (fun k_ => some k_ = (.slice Ao25 t39.length co25 : Value).ownBlock) (.slice Ao25 t39.length co25) t39 a0_6 2 t38 w _ ?side1 ?side2 A9.out).mono ?_
 (case side1 => exact yd0)
 (case side2 => exact Kd.R_tight rfl HO54.out)
 rintro e w26 ⟨v67, rfl, ho0, hb, hkp⟩
 refine ⟨_, rfl, ?_⟩
 have n0_ := Qz.mk (blk_kept zk hkp (fun hs_ => (fun e_ => (Kd.R_ne HO54.out BK31.out (by decide)) e_) hs_))
 have n1_ := Qz.mk (Kd.Qw (ok' := fun k_ => True) ho0 (fun k_ hk_ => trivial))
 have n2_ := Qz.mk (hb)
 clear BK31
 clear HB
 clear HO54
 have BK31 := n0_
 have HO55 := n1_
 have HB := n2_
 clear n0_ n1_ n2_
 (try clear hb)
 (try clear hkp)
 (try clear ho0)
 obtain ⟨Ao27, co27, eo27⟩ := Kd.R_slice HO55.out
 (first | subst eo27 | (injection eo27 with f1_ f2_ f3_; have f4_ := f1_.symm; have f5_ := f3_.symm; clear f1_ f2_ f3_; subst f4_; subst f5_))
 refine hK.out _ _ ⟨(Qh BK31.out 0).trans rfl, (Qh BK31.out 1).trans rfl, (Qh BK31.out 2).trans rfl, (Qh BK31.out 3).trans rfl, (Qh BK31.out 4).trans rfl, (Qh BK31.out 5).trans rfl, (Qh BK31.out 6).trans rfl, (Qh BK31.out 7).trans rfl⟩ (fun hHeld => ?_)
 clear hK K
 refine norm_ (a' := ?_) ?_ ?_
 rotate_left
 ·show Act.put _ (some 27) _ = _
  simp only [Act.put, List.setIfInBounds_toArray, List.set_cons_zero, List.set_cons_succ, Qar, Qas]
  rfl
 refine one_ (i := 9) (N := some 30) #[Y, Y, Y, Y, Y, Y, Y, Y, Y, Y, Z] rfl rfl (one_of HT_.out (by kernel_rfl)) (by decide) (fun K hK => ?_)
 refine goes_ Try.func99 (by kernel_rfl) rfl #[.slice Ao27 t38.length co27, .int .i64 a0_7, .int .i64 2] (by rfl) rfl rfl zm ?_
 with_reducible refine (Ziput.calls k (fun k_ => some k_ = (.slice Ao27 t38.length co27 : Value).ownBlock) (.slice Ao27 t38.length co27) t38 a0_7 2 t35 w _ ?side1 ?side2 A10.out).mono ?_
 (case side1 => exact yd0)
 (case side2 => exact Kd.R_tight rfl HO55.out)
 rintro e w28 ⟨v68, rfl, ho0, hb, hkp⟩
 refine ⟨_, rfl, ?_⟩
 have n0_ := Qz.mk (blk_kept zk hkp (fun hs_ => (fun e_ => (Kd.R_ne HO55.out BK31.out (by decide)) e_) hs_))
 have n1_ := Qz.mk (Kd.Qw (ok' := fun k_ => True) ho0 (fun k_ hk_ => trivial))
 have n2_ := Qz.mk (hb)
 clear BK31
 clear HB
 clear HO55
 have BK31 := n0_
 have HO49 := n1_
 have HB := n2_
 clear n0_ n1_ n2_
 (try clear hb)
 (try clear hkp)
 (try clear ho0)
 refine hK.out _ _ ⟨(Qh BK31.out 0).trans rfl, (Qh BK31.out 1).trans rfl, (Qh BK31.out 2).trans rfl, (Qh BK31.out 3).trans rfl, (Qh BK31.out 4).trans rfl, (Qh BK31.out 5).trans rfl, (Qh BK31.out 6).trans rfl, (Qh BK31.out 7).trans rfl⟩ (fun hHeld => ?_)
 clear hK K
 refine norm_ (a' := ?_) ?_ ?_
 rotate_left
 ·show Act.put _ (some 30) _ = _
  simp only [Act.put, List.setIfInBounds_toArray, List.set_cons_zero, List.set_cons_succ, Qar, Qas]
  rfl
 refine zp 10 3 ?_
 refine done_ (done_of HT_.out (by kernel_rfl)) ?_
 obtain ⟨Ao29, co29, eo29⟩ := Kd.R_slice HO49.out
 subst eo29
 try go_wp2_with (first | ((with_reducible refine gate_callee (f := 101) rfl ?_); refine Qat (some 33) rfl rfl Try.func101 (by kernel_rfl) rfl #[.slice Ao29 t35.length co29] rfl zm ?_; (with_reducible refine (ZiSumBytes.calls k _ _ t35 t36 _ ?side1 ?side2 A11.out).mono ?_); (case side1 => exact zc (Kd.Qaj HO49.out).2.2); (case side2 => exact (Kd.Qaj HO49.out).2.1); rintro e w' ⟨rfl, ⟨nd, rfl⟩⟩; refine ⟨_, rfl, ?_⟩) | ((with_reducible refine gate_callee (f := 99) rfl ?_); refine Qat (some 34) rfl rfl Try.func99 (by kernel_rfl) rfl #[.slice Ao29 t35.length co29, .int .i64 t36, .int .i64 2] rfl zm ?_; (with_reducible refine (Ziput.calls k (fun k_ => some k_ = (.slice Ao29 t35.length co29 : Value).ownBlock) (.slice Ao29 t35.length co29) t35 t36 2 t37 w _ ?side1 ?side2 A12.out).mono ?_); (case side1 => exact yd0); (case side2 => exact Kd.R_tight rfl HO49.out); rintro e w30 ⟨v69, rfl, ho0, hb, hkp⟩; refine ⟨_, rfl, ?_⟩; have n0_ := Qz.mk (blk_kept zk hkp (fun hs_ => (fun e_ => (Kd.R_ne HO49.out BK31.out (by decide)) e_) hs_)); have n1_ := Qz.mk (Kd.Qw (ok' := fun k_ => True) ho0 (fun k_ hk_ => trivial)); have n2_ := Qz.mk (hb); clear BK31; clear HB; clear HO49; have BK31 := n0_; have HO59 := n1_; have HB := n2_; clear n0_ n1_ n2_; (try clear hb); (try clear hkp); (try clear ho0)))
 go_ret
 exact ⟨_, ze, by refine zR ?_; exact HO59.out, zb⟩
end Go.Proofs.Ythagppmaofcllaa.P
