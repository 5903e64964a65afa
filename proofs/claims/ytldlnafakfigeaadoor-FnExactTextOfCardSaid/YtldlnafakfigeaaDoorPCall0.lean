import Derived.Test.YtldlnafakfigeaaDoorZz
import Derived.Test.YtldlnafakfigeaaDoorP0
import Derived.Test.YtldlnafakfigeaaDoorPDall0
import Derived.Test.YtldlnafakfigeaaDoorWRepsOne
import Derived.Test.YtldlnafakfigeaaDoorLv
import Derived.Test.YtldlnafakfigeaaDoorLv
import Derived.Test.YtldlnafakfigeaaDoorLv
namespace Go.Proofs.YtldlnafakfigeaaDoor.P
open Go.RowKit Go.Proofs.YtldlnafakfigeaaDoorW.PrintWords Go.Proofs.YtldlnafakfigeaaDoorW.PrintLast Go.Proofs.YtldlnafakfigeaaDoorW.PrintMore
attribute [local go_sem] max2_int min2_int max_two min_two max_three min_three max_four min_four   -- for this text's walks alone
set_option linter.unusedVariables false
set_option linter.unusedSimpArgs false
set_option maxHeartbeats 8000000 in
set_option maxRecDepth 100000 in
theorem laws_szUndoS.calls (A0 : Option Addr) (c0 : Nat) (l0 : List (S109)) (a1 : Int) (r : Int) (w : World) (hr0 : Kd.C k109 w A0 l0.length l0) (hc0 : l0.length ≤ c0) (h : laws_szUndoS.f l0 a1 = some r) :
 Calls Tryd.prog 49 #[.slice A0 l0.length c0, .int .i64 a1] w fun e w' => e = .returned (.int .i64 r) ∧ Drawn0 w w' := by
 have HR0 := Aside0.mk hr0
 have HC0 := Aside0.mk hc0
 clear hr0 hc0
 have H : (if (wrap64 (a1 - (l0.length : Int))) < 0 then (some (-1)) else (some (wrap64 (a1 - (l0.length : Int))))) = some r := h
 clear h
 by_cases c3 : (wrap64 (a1 - (l0.length : Int))) < 0
 ·rw [if_pos c3] at H
  have c3b0 : decide ((wrap64 (a1 - (l0.length : Int))) < 0) = true := decide_eq_true c3
  clear c3
  obtain rfl := Option.some.inj H
  go_enter Tryd.func49, Tryd.ntmps49
  go_wp2
  go_ret
  exact ⟨zs, zd⟩
 rw [if_neg c3] at H
 have c3b0 : decide ((wrap64 (a1 - (l0.length : Int))) < 0) = false := decide_eq_false c3
 clear c3
 obtain rfl := Option.some.inj H
 go_enter Tryd.func49, Tryd.ntmps49
 go_wp2
 go_ret
 exact ⟨zs, zd⟩
set_option maxHeartbeats 8000000 in
set_option maxRecDepth 100000 in
theorem laws_szTxn.calls (a0_0 : Int) (a0_1 : Int) (a0_2 : Int) (a0_3 : Int) (A0_4 : Option Addr) (c0_4 : Nat) (l0_4 : List (S109)) (a1 : Int) (r : Int) (w : World) (hr0_4 : Kd.C k109 w A0_4 l0_4.length l0_4) (hc0_4 : l0_4.length ≤ c0_4) (h : laws_szTxn.f a0_0 a0_1 a0_2 a0_3 l0_4 a1 = some r) :
 Calls Tryd.prog 21 #[.agg #[.int .i64 a0_0, .int .i64 a0_1, .int .i64 a0_2, .int .i64 a0_3, .slice A0_4 l0_4.length c0_4], .int .i64 a1] w fun e w' => e = .returned (.int .i64 r) ∧ Below w.heap.size w w' := by
 have hu61 := Tryd.underlying61
 have HR0_4 := Aside0.mk hr0_4
 have HC0_4 := Aside0.mk hc0_4
 clear hr0_4 hc0_4
 have HB := Aside0.mk (Below.refl w.heap.size w)
 have H : ((laws_szUndoS.f l0_4 a1).bind fun t10 => (if t10 < 0 then (some (-1)) else (some t10))) = some r := h
 clear h
 replace H := Option.bind_eq_some_iff.mp H
 obtain ⟨t10, A30, H⟩ := H
 replace H : (if t10 < 0 then (some (-1)) else (some t10)) = some r := H
 have A3 := Aside0.mk A30
 clear A30
 by_cases c4 : t10 < 0
 ·rw [if_pos c4] at H
  have c4b0 : decide (t10 < 0) = true := decide_eq_true c4
  clear c4
  obtain rfl := Option.some.inj H
  go_enter Tryd.func21, Tryd.ntmps21
  go_wp2_with (first | ((with_reducible refine gate_dst (N := 2) rfl ?_); refine zE 2 61 #[.int .i64 a0_0, .int .i64 a0_1, .int .i64 a0_2, .int .i64 a0_3, .slice A0_4 l0_4.length c0_4] ?_; intro gb9 hg w5 hbox hb; have BK9 := Aside0.mk hbox; have GW9 := Aside0.mk (zh hg : w.heap.size ≤ gb9); have GE9 := GW9; replace HB := Aside0.mk (below_step zb hb); clear hb hbox hg; obtain ⟨z6_0, z6_1, z6_2, z6_3, z6_4, j6_0, j6_1, j6_2, j6_3, j6_4⟩ := Go.Proofs.YtldlnafakfigeaaDoor.Lv.blks5 BK9.out) | ((with_reducible refine gate_callee (f := 49) rfl ?_); refine zj 8 Tryd.func49 #[.slice A0_4 l0_4.length c0_4, .int .i64 a1] ?_; (with_reducible refine (laws_szUndoS.calls _ _ l0_4 a1 t10 _ ?side1 ?side2 A3.out).mono ?_); (case side1 => exact zc (Kd.C_below HR0_4.out HB.out)); (case side2 => exact HC0_4.out); rintro e w' ⟨rfl, ⟨nd, rfl⟩⟩; refine ⟨_, rfl, ?_⟩))
  go_ret
  exact ⟨ze, zb⟩
 rw [if_neg c4] at H
 have c4b0 : decide (t10 < 0) = false := decide_eq_false c4
 clear c4
 obtain rfl := Option.some.inj H
 go_enter Tryd.func21, Tryd.ntmps21
 go_wp2_with (first | ((with_reducible refine gate_dst (N := 2) rfl ?_); refine zE 2 61 #[.int .i64 a0_0, .int .i64 a0_1, .int .i64 a0_2, .int .i64 a0_3, .slice A0_4 l0_4.length c0_4] ?_; intro gb9 hg w7 hbox hb; have BK9 := Aside0.mk hbox; have GW9 := Aside0.mk (zh hg : w.heap.size ≤ gb9); have GE9 := GW9; replace HB := Aside0.mk (below_step zb hb); clear hb hbox hg; obtain ⟨z8_0, z8_1, z8_2, z8_3, z8_4, j8_0, j8_1, j8_2, j8_3, j8_4⟩ := Go.Proofs.YtldlnafakfigeaaDoor.Lv.blks5 BK9.out) | ((with_reducible refine gate_callee (f := 49) rfl ?_); refine zj 8 Tryd.func49 #[.slice A0_4 l0_4.length c0_4, .int .i64 a1] ?_; (with_reducible refine (laws_szUndoS.calls _ _ l0_4 a1 t10 _ ?side1 ?side2 A3.out).mono ?_); (case side1 => exact zc (Kd.C_below HR0_4.out HB.out)); (case side2 => exact HC0_4.out); rintro e w' ⟨rfl, ⟨nd, rfl⟩⟩; refine ⟨_, rfl, ?_⟩))
 go_ret
 exact ⟨ze, zb⟩
set_option maxHeartbeats 8000000 in
set_option maxRecDepth 100000 in
theorem laws_szTxnS.calls (k : Nat) (A0 : Option Addr) (c0 : Nat) (l0 : List (S61)) (a1 : Int) (r : Int) (w : World) (hr0 : Kd.C k61 w A0 l0.length l0) (hc0 : l0.length ≤ c0) (h : laws_szTxnS.f k l0 a1 = some r) :
 Calls Tryd.prog 10 #[.slice A0 l0.length c0, .int .i64 a1] w fun e w' => e = .returned (.int .i64 r) ∧ Below w.heap.size w w' := by
 have hu61 := Tryd.underlying61
 have HR0 := Aside0.mk hr0
 have HC0 := Aside0.mk hc0
 clear hr0 hc0
 have HB := Aside0.mk (Below.refl w.heap.size w)
 have H : (if (wrap64 (a1 - (l0.length : Int))) < 0 then (some (-1)) else (laws_szTxnS.l0 k l0 (wrap64 (a1 - (l0.length : Int))) 0)) = some r := h
 clear h
 by_cases c3 : (wrap64 (a1 - (l0.length : Int))) < 0
 ·rw [if_pos c3] at H
  have c3b0 : decide ((wrap64 (a1 - (l0.length : Int))) < 0) = true := decide_eq_true c3
  clear c3
  obtain rfl := Option.some.inj H
  go_enter Tryd.func10, Tryd.ntmps10
  go_wp2
  go_ret
  exact ⟨ze, zb⟩
 rw [if_neg c3] at H
 have c3b0 : decide ((wrap64 (a1 - (l0.length : Int))) < 0) = false := decide_eq_false c3
 clear c3
 have H' := Aside0.mk H
 clear H
 go_enter Tryd.func10, Tryd.ntmps10
 go_wp2
 go_loopg [1, 5] k (fun kq v1 v5 w' => ∃ (x1_1 : Int) (x5_1 : Int), v1 = .int .i64 x1_1 ∧ v5 = .int .i64 x5_1 ∧ Aside0 (laws_szTxnS.l0 kq l0 x1_1 x5_1 = some r) ∧ Aside0 (kq ≤ k) ∧ Aside0 (Below w.heap.size w w'))
 case atStart => exact ⟨(wrap64 (a1 - (l0.length : Int))), (0), zs, zs, H', ⟨Nat.le_refl _⟩, ⟨zb⟩⟩
 case round =>
  clear H'
  try clear c1
  try clear p2
  try clear c3
  try clear c3b0
  obtain ⟨x1_1, x5_1, rfl, rfl, HA, HK1, HB⟩ := hrel
  cases gk with
  | zero => exact absurd HA.out (by simp [laws_szTxnS.l0])
  | succ k1 =>
   have H := HA.out
   clear HA
   simp only [laws_szTxnS.l0] at H
   by_cases c4 : x5_1 < (l0.length : Int)
   ·rw [if_pos c4] at H
    have c4b0 : decide (x5_1 < (l0.length : Int)) = true := decide_eq_true c4
    clear c4
    by_cases c5 : 0 ≤ x5_1
    ·rw [if_pos c5] at H
     have c5b0 : decide (0 ≤ x5_1) = true := decide_eq_true c5
     clear c5
     replace H := Option.bind_eq_some_iff.mp H
     obtain ⟨t12, A60, H⟩ := H
     replace H : (if t12 < 0 then (some (-1)) else (laws_szTxnS.l0 k1 l0 t12 (wrap64 (x5_1 + 1)))) = some r := H
     have A6 := Aside0.mk A60
     clear A60
     by_cases c7 : t12 < 0
     ·rw [if_pos c7] at H
      have c7b0 : decide (t12 < 0) = true := decide_eq_true c7
      clear c7
      obtain rfl := Option.some.inj H
      have p103 : 0 ≤ (x5_1 : Int) := of_decide_eq_true za
      have q11 : x5_1 < (l0.length : Int) := of_decide_eq_true za
      obtain ⟨ad11, A11_4, c11_4, e103, hx11_0, hx11_1, hx11_2, hx11_3, hx11_4, hl11_4, hi103_4⟩ := at_T61 HR0.out x5_1 p103 q11
      cases e103
      replace hx11_0 := zx HB hx11_0
      replace hx11_1 := zx HB hx11_1
      replace hx11_2 := zx HB hx11_2
      replace hx11_3 := zx HB hx11_3
      replace hx11_4 := zx HB hx11_4
      have HR103_4 := Aside0.mk hi103_4
      have HC103_4 := Aside0.mk hl11_4
      clear hi103_4 hl11_4
      replace p103 := eq_true p103
      replace q11 := eq_true q11
      go_wp2_with (first | ((with_reducible refine gate_callee (f := 21) rfl ?_); refine zj 23 Tryd.func21 #[.agg #[.int .i64 ((rd_T61 l0 x5_1).f0), .int .i64 ((rd_T61 l0 x5_1).f1), .int .i64 ((rd_T61 l0 x5_1).f2), .int .i64 ((rd_T61 l0 x5_1).f3), .slice A11_4 ((rd_T61 l0 x5_1).f4).length c11_4], .int .i64 x1_1] ?_; (with_reducible refine (laws_szTxn.calls ((rd_T61 l0 x5_1).f0) ((rd_T61 l0 x5_1).f1) ((rd_T61 l0 x5_1).f2) ((rd_T61 l0 x5_1).f3) _ _ ((rd_T61 l0 x5_1).f4) x1_1 t12 _ ?side1 ?side2 A6.out).mono ?_); (case side1 => exact zc (Kd.C_below HR103_4.out HB.out)); (case side2 => exact HC103_4.out); rintro e w8 ⟨rfl, hb⟩; refine ⟨_, rfl, ?_⟩; replace HB := Aside0.mk (below_step zb hb); (try clear hb); (try clear hb2); (try clear hk); (try clear hi)))
      go_ret
      exact ⟨ze, zb⟩
     rw [if_neg c7] at H
     have c7b0 : decide (t12 < 0) = false := decide_eq_false c7
     clear c7
     have H' := Aside0.mk H
     clear H
     have p103 : 0 ≤ (x5_1 : Int) := of_decide_eq_true za
     have q11 : x5_1 < (l0.length : Int) := of_decide_eq_true za
     obtain ⟨ad11, A11_4, c11_4, e103, hx11_0, hx11_1, hx11_2, hx11_3, hx11_4, hl11_4, hi103_4⟩ := at_T61 HR0.out x5_1 p103 q11
     cases e103
     replace hx11_0 := zx HB hx11_0
     replace hx11_1 := zx HB hx11_1
     replace hx11_2 := zx HB hx11_2
     replace hx11_3 := zx HB hx11_3
     replace hx11_4 := zx HB hx11_4
     have HR103_4 := Aside0.mk hi103_4
     have HC103_4 := Aside0.mk hl11_4
     clear hi103_4 hl11_4
     replace p103 := eq_true p103
     replace q11 := eq_true q11
     go_wp2_with (first | ((with_reducible refine gate_callee (f := 21) rfl ?_); refine zj 23 Tryd.func21 #[.agg #[.int .i64 ((rd_T61 l0 x5_1).f0), .int .i64 ((rd_T61 l0 x5_1).f1), .int .i64 ((rd_T61 l0 x5_1).f2), .int .i64 ((rd_T61 l0 x5_1).f3), .slice A11_4 ((rd_T61 l0 x5_1).f4).length c11_4], .int .i64 x1_1] ?_; (with_reducible refine (laws_szTxn.calls ((rd_T61 l0 x5_1).f0) ((rd_T61 l0 x5_1).f1) ((rd_T61 l0 x5_1).f2) ((rd_T61 l0 x5_1).f3) _ _ ((rd_T61 l0 x5_1).f4) x1_1 t12 _ ?side1 ?side2 A6.out).mono ?_); (case side1 => exact zc (Kd.C_below HR103_4.out HB.out)); (case side2 => exact HC103_4.out); rintro e w9 ⟨rfl, hb⟩; refine ⟨_, rfl, ?_⟩; replace HB := Aside0.mk (below_step zb hb); (try clear hb); (try clear hb2); (try clear hk); (try clear hi)))
     go_roundg k1
     case measure => have := HK1.out; omega
     case rel => exact ⟨(t12), (wrap64 (x5_1 + 1)), zs, zs, H', ⟨by have := HK1.out; omega⟩, ⟨zb⟩⟩
    rw [if_neg c5] at H
    exact absurd H (by simp)
   rw [if_neg c4] at H
   have c4b0 : decide (x5_1 < (l0.length : Int)) = false := decide_eq_false c4
   clear c4
   obtain rfl := Option.some.inj H
   go_wp2
   go_ret
   exact ⟨ze, zb⟩
set_option maxHeartbeats 8000000 in
set_option maxRecDepth 100000 in
theorem laws_szVersionS.calls (A0 : Option Addr) (c0 : Nat) (l0 : List (S111)) (a1 : Int) (r : Int) (w : World) (hr0 : Kd.C k111 w A0 l0.length l0) (hc0 : l0.length ≤ c0) (h : laws_szVersionS.f l0 a1 = some r) :
 Calls Tryd.prog 50 #[.slice A0 l0.length c0, .int .i64 a1] w fun e w' => e = .returned (.int .i64 r) ∧ Drawn0 w w' := by
 have HR0 := Aside0.mk hr0
 have HC0 := Aside0.mk hc0
 clear hr0 hc0
 have H : (if (wrap64 (a1 - (l0.length : Int))) < 0 then (some (-1)) else (some (wrap64 (a1 - (l0.length : Int))))) = some r := h
 clear h
 by_cases c3 : (wrap64 (a1 - (l0.length : Int))) < 0
 ·rw [if_pos c3] at H
  have c3b0 : decide ((wrap64 (a1 - (l0.length : Int))) < 0) = true := decide_eq_true c3
  clear c3
  obtain rfl := Option.some.inj H
  go_enter Tryd.func50, Tryd.ntmps50
  go_wp2
  go_ret
  exact ⟨zs, zd⟩
 rw [if_neg c3] at H
 have c3b0 : decide ((wrap64 (a1 - (l0.length : Int))) < 0) = false := decide_eq_false c3
 clear c3
 obtain rfl := Option.some.inj H
 go_enter Tryd.func50, Tryd.ntmps50
 go_wp2
 go_ret
 exact ⟨zs, zd⟩
set_option maxHeartbeats 8000000 in
set_option maxRecDepth 100000 in
theorem laws_szRow.calls (a0_0 : Int) (A0_1 : Option Addr) (c0_1 : Nat) (l0_1 : List (S111)) (a1 : Int) (r : Int) (w : World) (hr0_1 : Kd.C k111 w A0_1 l0_1.length l0_1) (hc0_1 : l0_1.length ≤ c0_1) (h : laws_szRow.f a0_0 l0_1 a1 = some r) :
 Calls Tryd.prog 22 #[.agg #[.int .i64 a0_0, .slice A0_1 l0_1.length c0_1], .int .i64 a1] w fun e w' => e = .returned (.int .i64 r) ∧ Below w.heap.size w w' := by
 have hu65 := Tryd.underlying65
 have HR0_1 := Aside0.mk hr0_1
 have HC0_1 := Aside0.mk hc0_1
 clear hr0_1 hc0_1
 have HB := Aside0.mk (Below.refl w.heap.size w)
 have H : ((laws_szVersionS.f l0_1 a1).bind fun t10 => (if t10 < 0 then (some (-1)) else (some t10))) = some r := h
 clear h
 replace H := Option.bind_eq_some_iff.mp H
 obtain ⟨t10, A30, H⟩ := H
 replace H : (if t10 < 0 then (some (-1)) else (some t10)) = some r := H
 have A3 := Aside0.mk A30
 clear A30
 by_cases c4 : t10 < 0
 ·rw [if_pos c4] at H
  have c4b0 : decide (t10 < 0) = true := decide_eq_true c4
  clear c4
  obtain rfl := Option.some.inj H
  go_enter Tryd.func22, Tryd.ntmps22
  go_wp2_with (first | ((with_reducible refine gate_dst (N := 2) rfl ?_); refine zE 2 65 #[.int .i64 a0_0, .slice A0_1 l0_1.length c0_1] ?_; intro gb9 hg w5 hbox hb; have BK9 := Aside0.mk hbox; have GW9 := Aside0.mk (zh hg : w.heap.size ≤ gb9); have GE9 := GW9; replace HB := Aside0.mk (below_step zb hb); clear hb hbox hg; obtain ⟨z6_0, z6_1, j6_0, j6_1⟩ := Go.Proofs.YtldlnafakfigeaaDoor.Lv.blks2 BK9.out) | ((with_reducible refine gate_callee (f := 50) rfl ?_); refine zj 8 Tryd.func50 #[.slice A0_1 l0_1.length c0_1, .int .i64 a1] ?_; (with_reducible refine (laws_szVersionS.calls _ _ l0_1 a1 t10 _ ?side1 ?side2 A3.out).mono ?_); (case side1 => exact zc (Kd.C_below HR0_1.out HB.out)); (case side2 => exact HC0_1.out); rintro e w' ⟨rfl, ⟨nd, rfl⟩⟩; refine ⟨_, rfl, ?_⟩))
  go_ret
  exact ⟨ze, zb⟩
 rw [if_neg c4] at H
 have c4b0 : decide (t10 < 0) = false := decide_eq_false c4
 clear c4
 obtain rfl := Option.some.inj H
 go_enter Tryd.func22, Tryd.ntmps22
 go_wp2_with (first | ((with_reducible refine gate_dst (N := 2) rfl ?_); refine zE 2 65 #[.int .i64 a0_0, .slice A0_1 l0_1.length c0_1] ?_; intro gb9 hg w7 hbox hb; have BK9 := Aside0.mk hbox; have GW9 := Aside0.mk (zh hg : w.heap.size ≤ gb9); have GE9 := GW9; replace HB := Aside0.mk (below_step zb hb); clear hb hbox hg; obtain ⟨z8_0, z8_1, j8_0, j8_1⟩ := Go.Proofs.YtldlnafakfigeaaDoor.Lv.blks2 BK9.out) | ((with_reducible refine gate_callee (f := 50) rfl ?_); refine zj 8 Tryd.func50 #[.slice A0_1 l0_1.length c0_1, .int .i64 a1] ?_; (with_reducible refine (laws_szVersionS.calls _ _ l0_1 a1 t10 _ ?side1 ?side2 A3.out).mono ?_); (case side1 => exact zc (Kd.C_below HR0_1.out HB.out)); (case side2 => exact HC0_1.out); rintro e w' ⟨rfl, ⟨nd, rfl⟩⟩; refine ⟨_, rfl, ?_⟩))
 go_ret
 exact ⟨ze, zb⟩
set_option maxHeartbeats 8000000 in
set_option maxRecDepth 100000 in
theorem laws_szRowS.calls (k : Nat) (A0 : Option Addr) (c0 : Nat) (l0 : List (S65)) (a1 : Int) (r : Int) (w : World) (hr0 : Kd.C k65 w A0 l0.length l0) (hc0 : l0.length ≤ c0) (h : laws_szRowS.f k l0 a1 = some r) :
 Calls Tryd.prog 11 #[.slice A0 l0.length c0, .int .i64 a1] w fun e w' => e = .returned (.int .i64 r) ∧ Below w.heap.size w w' := by
 have hu65 := Tryd.underlying65
 have HR0 := Aside0.mk hr0
 have HC0 := Aside0.mk hc0
 clear hr0 hc0
 have HB := Aside0.mk (Below.refl w.heap.size w)
 have H : (if (wrap64 (a1 - (l0.length : Int))) < 0 then (some (-1)) else (laws_szRowS.l0 k l0 (wrap64 (a1 - (l0.length : Int))) 0)) = some r := h
 clear h
 by_cases c3 : (wrap64 (a1 - (l0.length : Int))) < 0
 ·rw [if_pos c3] at H
  have c3b0 : decide ((wrap64 (a1 - (l0.length : Int))) < 0) = true := decide_eq_true c3
  clear c3
  obtain rfl := Option.some.inj H
  go_enter Tryd.func11, Tryd.ntmps11
  go_wp2
  go_ret
  exact ⟨ze, zb⟩
 rw [if_neg c3] at H
 have c3b0 : decide ((wrap64 (a1 - (l0.length : Int))) < 0) = false := decide_eq_false c3
 clear c3
 have H' := Aside0.mk H
 clear H
 go_enter Tryd.func11, Tryd.ntmps11
 go_wp2
 go_loopg [1, 5] k (fun kq v1 v5 w' => ∃ (x1_1 : Int) (x5_1 : Int), v1 = .int .i64 x1_1 ∧ v5 = .int .i64 x5_1 ∧ Aside0 (laws_szRowS.l0 kq l0 x1_1 x5_1 = some r) ∧ Aside0 (kq ≤ k) ∧ Aside0 (Below w.heap.size w w'))
 case atStart => exact ⟨(wrap64 (a1 - (l0.length : Int))), (0), zs, zs, H', ⟨Nat.le_refl _⟩, ⟨zb⟩⟩
 case round =>
  clear H'
  try clear c1
  try clear p2
  try clear c3
  try clear c3b0
  obtain ⟨x1_1, x5_1, rfl, rfl, HA, HK1, HB⟩ := hrel
  cases gk with
  | zero => exact absurd HA.out (by simp [laws_szRowS.l0])
  | succ k1 =>
   have H := HA.out
   clear HA
   simp only [laws_szRowS.l0] at H
   by_cases c4 : x5_1 < (l0.length : Int)
   ·rw [if_pos c4] at H
    have c4b0 : decide (x5_1 < (l0.length : Int)) = true := decide_eq_true c4
    clear c4
    by_cases c5 : 0 ≤ x5_1
    ·rw [if_pos c5] at H
     have c5b0 : decide (0 ≤ x5_1) = true := decide_eq_true c5
     clear c5
     replace H := Option.bind_eq_some_iff.mp H
     obtain ⟨t12, A60, H⟩ := H
     replace H : (if t12 < 0 then (some (-1)) else (laws_szRowS.l0 k1 l0 t12 (wrap64 (x5_1 + 1)))) = some r := H
     have A6 := Aside0.mk A60
     clear A60
     by_cases c7 : t12 < 0
     ·rw [if_pos c7] at H
      have c7b0 : decide (t12 < 0) = true := decide_eq_true c7
      clear c7
      obtain rfl := Option.some.inj H
      have p107 : 0 ≤ (x5_1 : Int) := of_decide_eq_true za
      have q10 : x5_1 < (l0.length : Int) := of_decide_eq_true za
      obtain ⟨ad10, A10_1, c10_1, e107, hx10_0, hx10_1, hl10_1, hi107_1⟩ := at_T65 HR0.out x5_1 p107 q10
      cases e107
      replace hx10_0 := zx HB hx10_0
      replace hx10_1 := zx HB hx10_1
      have HR107_1 := Aside0.mk hi107_1
      have HC107_1 := Aside0.mk hl10_1
      clear hi107_1 hl10_1
      replace p107 := eq_true p107
      replace q10 := eq_true q10
      go_wp2_with (first | ((with_reducible refine gate_callee (f := 22) rfl ?_); refine zj 23 Tryd.func22 #[.agg #[.int .i64 ((rd_T65 l0 x5_1).f0), .slice A10_1 ((rd_T65 l0 x5_1).f1).length c10_1], .int .i64 x1_1] ?_; (with_reducible refine (laws_szRow.calls ((rd_T65 l0 x5_1).f0) _ _ ((rd_T65 l0 x5_1).f1) x1_1 t12 _ ?side1 ?side2 A6.out).mono ?_); (case side1 => exact zc (Kd.C_below HR107_1.out HB.out)); (case side2 => exact HC107_1.out); rintro e w8 ⟨rfl, hb⟩; refine ⟨_, rfl, ?_⟩; replace HB := Aside0.mk (below_step zb hb); (try clear hb); (try clear hb2); (try clear hk); (try clear hi)))
      go_ret
      exact ⟨ze, zb⟩
     rw [if_neg c7] at H
     have c7b0 : decide (t12 < 0) = false := decide_eq_false c7
     clear c7
     have H' := Aside0.mk H
     clear H
     have p107 : 0 ≤ (x5_1 : Int) := of_decide_eq_true za
     have q10 : x5_1 < (l0.length : Int) := of_decide_eq_true za
     obtain ⟨ad10, A10_1, c10_1, e107, hx10_0, hx10_1, hl10_1, hi107_1⟩ := at_T65 HR0.out x5_1 p107 q10
     cases e107
     replace hx10_0 := zx HB hx10_0
     replace hx10_1 := zx HB hx10_1
     have HR107_1 := Aside0.mk hi107_1
     have HC107_1 := Aside0.mk hl10_1
     clear hi107_1 hl10_1
     replace p107 := eq_true p107
     replace q10 := eq_true q10
     go_wp2_with (first | ((with_reducible refine gate_callee (f := 22) rfl ?_); refine zj 23 Tryd.func22 #[.agg #[.int .i64 ((rd_T65 l0 x5_1).f0), .slice A10_1 ((rd_T65 l0 x5_1).f1).length c10_1], .int .i64 x1_1] ?_; (with_reducible refine (laws_szRow.calls ((rd_T65 l0 x5_1).f0) _ _ ((rd_T65 l0 x5_1).f1) x1_1 t12 _ ?side1 ?side2 A6.out).mono ?_); (case side1 => exact zc (Kd.C_below HR107_1.out HB.out)); (case side2 => exact HC107_1.out); rintro e w9 ⟨rfl, hb⟩; refine ⟨_, rfl, ?_⟩; replace HB := Aside0.mk (below_step zb hb); (try clear hb); (try clear hb2); (try clear hk); (try clear hi)))
     go_roundg k1
     case measure => have := HK1.out; omega
     case rel => exact ⟨(t12), (wrap64 (x5_1 + 1)), zs, zs, H', ⟨by have := HK1.out; omega⟩, ⟨zb⟩⟩
    rw [if_neg c5] at H
    exact absurd H (by simp)
   rw [if_neg c4] at H
   have c4b0 : decide (x5_1 < (l0.length : Int)) = false := decide_eq_false c4
   clear c4
   obtain rfl := Option.some.inj H
   go_wp2
   go_ret
   exact ⟨ze, zb⟩
set_option maxHeartbeats 8000000 in
set_option maxRecDepth 100000 in
theorem laws_szEngine.calls (k : Nat) (a0_0 : Int) (a0_1 : Int) (A0_2 : Option Addr) (c0_2 : Nat) (l0_2 : List (S61)) (A0_3 : Option Addr) (c0_3 : Nat) (l0_3 : List (S65)) (a1 : Int) (r : Int) (w : World) (hr0_2 : Kd.C k61 w A0_2 l0_2.length l0_2) (hc0_2 : l0_2.length ≤ c0_2) (hr0_3 : Kd.C k65 w A0_3 l0_3.length l0_3) (hc0_3 : l0_3.length ≤ c0_3) (h : laws_szEngine.f k a0_0 a0_1 l0_2 l0_3 a1 = some r) :
 Calls Tryd.prog 4 #[.agg #[.int .i64 a0_0, .int .i64 a0_1, .slice A0_2 l0_2.length c0_2, .slice A0_3 l0_3.length c0_3], .int .i64 a1] w fun e w' => e = .returned (.int .i64 r) ∧ Below w.heap.size w w' := by
 have hu25 := Tryd.underlying25
 have HR0_2 := Aside0.mk hr0_2
 have HC0_2 := Aside0.mk hc0_2
 clear hr0_2 hc0_2
 have HR0_3 := Aside0.mk hr0_3
 have HC0_3 := Aside0.mk hc0_3
 clear hr0_3 hc0_3
 have HB := Aside0.mk (Below.refl w.heap.size w)
 have H : ((laws_szTxnS.f k l0_2 a1).bind fun t21 => (if t21 < 0 then (some (-1)) else ((laws_szRowS.f k l0_3 t21).bind fun t22 => (if t22 < 0 then (some (-1)) else (some t22))))) = some r := h
 clear h
 replace H := Option.bind_eq_some_iff.mp H
 obtain ⟨t21, A30, H⟩ := H
 replace H : (if t21 < 0 then (some (-1)) else ((laws_szRowS.f k l0_3 t21).bind fun t22 => (if t22 < 0 then (some (-1)) else (some t22)))) = some r := H
 have A3 := Aside0.mk A30
 clear A30
 by_cases c4 : t21 < 0
 ·rw [if_pos c4] at H
  have c4b0 : decide (t21 < 0) = true := decide_eq_true c4
  clear c4
  obtain rfl := Option.some.inj H
  go_enter Tryd.func4, Tryd.ntmps4
  go_wp2_with (first | ((with_reducible refine gate_dst (N := 2) rfl ?_); refine zE 2 25 #[.int .i64 a0_0, .int .i64 a0_1, .slice A0_2 l0_2.length c0_2, .slice A0_3 l0_3.length c0_3] ?_; intro gb20 hg w5 hbox hb; have BK20 := Aside0.mk hbox; have GW20 := Aside0.mk (zh hg : w.heap.size ≤ gb20); have GE20 := GW20; replace HB := Aside0.mk (below_step zb hb); clear hb hbox hg; obtain ⟨z6_0, z6_1, z6_2, z6_3, j6_0, j6_1, j6_2, j6_3⟩ := Go.Proofs.YtldlnafakfigeaaDoor.Lv.blks4 BK20.out) | ((with_reducible refine gate_callee (f := 10) rfl ?_); refine zj 8 Tryd.func10 #[.slice A0_2 l0_2.length c0_2, .int .i64 a1] ?_; (with_reducible refine (laws_szTxnS.calls k _ _ l0_2 a1 t21 _ ?side1 ?side2 A3.out).mono ?_); (case side1 => exact zc (Kd.C_below HR0_2.out HB.out)); (case side2 => exact HC0_2.out); rintro e w7 ⟨rfl, hb⟩; refine ⟨_, rfl, ?_⟩; replace BK20 := zw BK20 hb; replace HB := Aside0.mk (below_step zb hb); (try clear hb); (try clear hb2); (try clear hk); (try clear hi)))
  go_ret
  exact ⟨ze, zb⟩
 rw [if_neg c4] at H
 have c4b0 : decide (t21 < 0) = false := decide_eq_false c4
 clear c4
 replace H := Option.bind_eq_some_iff.mp H
 obtain ⟨t22, A80, H⟩ := H
 replace H : (if t22 < 0 then (some (-1)) else (some t22)) = some r := H
 have A8 := Aside0.mk A80
 clear A80
 by_cases c9 : t22 < 0
 ·rw [if_pos c9] at H
  have c9b0 : decide (t22 < 0) = true := decide_eq_true c9
  clear c9
  obtain rfl := Option.some.inj H
  go_enter Tryd.func4, Tryd.ntmps4
  go_wp2_with (first | ((with_reducible refine gate_dst (N := 2) rfl ?_); refine zE 2 25 #[.int .i64 a0_0, .int .i64 a0_1, .slice A0_2 l0_2.length c0_2, .slice A0_3 l0_3.length c0_3] ?_; intro gb20 hg w10 hbox hb; have BK20 := Aside0.mk hbox; have GW20 := Aside0.mk (zh hg : w.heap.size ≤ gb20); have GE20 := GW20; replace HB := Aside0.mk (below_step zb hb); clear hb hbox hg; obtain ⟨z11_0, z11_1, z11_2, z11_3, j11_0, j11_1, j11_2, j11_3⟩ := Go.Proofs.YtldlnafakfigeaaDoor.Lv.blks4 BK20.out) | ((with_reducible refine gate_callee (f := 10) rfl ?_); refine zj 8 Tryd.func10 #[.slice A0_2 l0_2.length c0_2, .int .i64 a1] ?_; (with_reducible refine (laws_szTxnS.calls k _ _ l0_2 a1 t21 _ ?side1 ?side2 A3.out).mono ?_); (case side1 => exact zc (Kd.C_below HR0_2.out HB.out)); (case side2 => exact HC0_2.out); rintro e w12 ⟨rfl, hb⟩; refine ⟨_, rfl, ?_⟩; replace BK20 := zw BK20 hb; replace HB := Aside0.mk (below_step zb hb); (try clear hb); (try clear hb2); (try clear hk); (try clear hi); obtain ⟨z13_0, z13_1, z13_2, z13_3, j13_0, j13_1, j13_2, j13_3⟩ := Go.Proofs.YtldlnafakfigeaaDoor.Lv.blks4 BK20.out) | ((with_reducible refine gate_callee (f := 11) rfl ?_); refine zj 14 Tryd.func11 #[.slice A0_3 l0_3.length c0_3, .int .i64 t21] ?_; (with_reducible refine (laws_szRowS.calls k _ _ l0_3 t21 t22 _ ?side1 ?side2 A8.out).mono ?_); (case side1 => exact zc (Kd.C_below HR0_3.out HB.out)); (case side2 => exact HC0_3.out); rintro e w14 ⟨rfl, hb⟩; refine ⟨_, rfl, ?_⟩; replace BK20 := zw BK20 hb; replace HB := Aside0.mk (below_step zb hb); (try clear hb); (try clear hb2); (try clear hk); (try clear hi)))
  go_ret
  exact ⟨ze, zb⟩
 rw [if_neg c9] at H
 have c9b0 : decide (t22 < 0) = false := decide_eq_false c9
 clear c9
 obtain rfl := Option.some.inj H
 go_enter Tryd.func4, Tryd.ntmps4
 go_wp2_with (first | ((with_reducible refine gate_dst (N := 2) rfl ?_); refine zE 2 25 #[.int .i64 a0_0, .int .i64 a0_1, .slice A0_2 l0_2.length c0_2, .slice A0_3 l0_3.length c0_3] ?_; intro gb20 hg w15 hbox hb; have BK20 := Aside0.mk hbox; have GW20 := Aside0.mk (zh hg : w.heap.size ≤ gb20); have GE20 := GW20; replace HB := Aside0.mk (below_step zb hb); clear hb hbox hg; obtain ⟨z16_0, z16_1, z16_2, z16_3, j16_0, j16_1, j16_2, j16_3⟩ := Go.Proofs.YtldlnafakfigeaaDoor.Lv.blks4 BK20.out) | ((with_reducible refine gate_callee (f := 10) rfl ?_); refine zj 8 Tryd.func10 #[.slice A0_2 l0_2.length c0_2, .int .i64 a1] ?_; (with_reducible refine (laws_szTxnS.calls k _ _ l0_2 a1 t21 _ ?side1 ?side2 A3.out).mono ?_); (case side1 => exact zc (Kd.C_below HR0_2.out HB.out)); (case side2 => exact HC0_2.out); rintro e w17 ⟨rfl, hb⟩; refine ⟨_, rfl, ?_⟩; replace BK20 := zw BK20 hb; replace HB := Aside0.mk (below_step zb hb); (try clear hb); (try clear hb2); (try clear hk); (try clear hi); obtain ⟨z18_0, z18_1, z18_2, z18_3, j18_0, j18_1, j18_2, j18_3⟩ := Go.Proofs.YtldlnafakfigeaaDoor.Lv.blks4 BK20.out) | ((with_reducible refine gate_callee (f := 11) rfl ?_); refine zj 14 Tryd.func11 #[.slice A0_3 l0_3.length c0_3, .int .i64 t21] ?_; (with_reducible refine (laws_szRowS.calls k _ _ l0_3 t21 t22 _ ?side1 ?side2 A8.out).mono ?_); (case side1 => exact zc (Kd.C_below HR0_3.out HB.out)); (case side2 => exact HC0_3.out); rintro e w19 ⟨rfl, hb⟩; refine ⟨_, rfl, ?_⟩; replace BK20 := zw BK20 hb; replace HB := Aside0.mk (below_step zb hb); (try clear hb); (try clear hb2); (try clear hk); (try clear hi)))
 go_ret
 exact ⟨ze, zb⟩
set_option maxHeartbeats 8000000 in
set_option maxRecDepth 100000 in
theorem spec_l1In.calls (a0 : Int) (a1 : Int) (a2 : Int) (r : Bool) (w : World) (h : spec_l1In.f a0 a1 a2 = some r) :
 Calls Tryd.prog 24 #[.int .i64 a0, .int .i64 a1, .int .i64 a2] w fun e w' => e = .returned (.bool r) ∧ Drawn0 w w' := by
 have H : (if a0 ≥ a1 then (some (decide (a0 ≤ a2))) else (some false)) = some r := h
 clear h
 by_cases c4 : a0 ≥ a1
 ·rw [if_pos c4] at H
  have c4b0 : decide (a1 ≤ a0) = true := decide_eq_true c4
  clear c4
  obtain rfl := Option.some.inj H
  go_enter Tryd.func24, Tryd.ntmps24
  go_wp2
  go_ret
  exact ⟨zs, zd⟩
 rw [if_neg c4] at H
 have c4b0 : decide (a1 ≤ a0) = false := decide_eq_false c4
 clear c4
 obtain rfl := Option.some.inj H
 go_enter Tryd.func24, Tryd.ntmps24
 go_wp2
 go_ret
 exact ⟨zs, zd⟩
set_option maxHeartbeats 8000000 in
set_option maxRecDepth 100000 in
theorem spec_l5Txn.calls (a0 : Int) (r : Bool) (w : World) (h : spec_l5Txn.f a0 = some r) :
 Calls Tryd.prog 23 #[.int .i64 a0] w fun e w' => e = .returned (.bool r) ∧ Drawn0 w w' := by
 have H : ((spec_l1In.f a0 1 999).bind fun t3 => (some t3)) = some r := h
 clear h
 replace H := Option.bind_eq_some_iff.mp H
 obtain ⟨t3, A20, H⟩ := H
 replace H : (some t3) = some r := H
 have A2 := Aside0.mk A20
 clear A20
 obtain rfl := Option.some.inj H
 go_enter Tryd.func23, Tryd.ntmps23
 go_wp2_with (first | ((with_reducible refine gate_callee (f := 24) rfl ?_); refine zj 4 Tryd.func24 #[.int .i64 a0, .int .i64 1, .int .i64 999] ?_; (with_reducible refine (spec_l1In.calls a0 1 999 t3 _ A2.out).mono ?_); rintro e w' ⟨rfl, ⟨nd, rfl⟩⟩; refine ⟨_, rfl, ?_⟩))
 go_ret
 exact ⟨zs, zd⟩
set_option maxHeartbeats 8000000 in
set_option maxRecDepth 100000 in
theorem spec_l1Key.calls (a0 : Int) (r : Bool) (w : World) (h : spec_l1Key.f a0 = some r) :
 Calls Tryd.prog 52 #[.int .i64 a0] w fun e w' => e = .returned (.bool r) ∧ Drawn0 w w' := by
 have H : ((spec_l1In.f a0 0 31).bind fun t3 => (some t3)) = some r := h
 clear h
 replace H := Option.bind_eq_some_iff.mp H
 obtain ⟨t3, A20, H⟩ := H
 replace H : (some t3) = some r := H
 have A2 := Aside0.mk A20
 clear A20
 obtain rfl := Option.some.inj H
 go_enter Tryd.func52, Tryd.ntmps52
 go_wp2_with (first | ((with_reducible refine gate_callee (f := 24) rfl ?_); refine zj 4 Tryd.func24 #[.int .i64 a0, .int .i64 0, .int .i64 31] ?_; (with_reducible refine (spec_l1In.calls a0 0 31 t3 _ A2.out).mono ?_); rintro e w' ⟨rfl, ⟨nd, rfl⟩⟩; refine ⟨_, rfl, ?_⟩))
 go_ret
 exact ⟨zs, zd⟩
set_option maxHeartbeats 8000000 in
set_option maxRecDepth 100000 in
theorem spec_l1Value.calls (a0 : Int) (r : Bool) (w : World) (h : spec_l1Value.f a0 = some r) :
 Calls Tryd.prog 69 #[.int .i64 a0] w fun e w' => e = .returned (.bool r) ∧ Drawn0 w w' := by
 have H : ((spec_l1In.f a0 0 9999).bind fun t3 => (some t3)) = some r := h
 clear h
 replace H := Option.bind_eq_some_iff.mp H
 obtain ⟨t3, A20, H⟩ := H
 replace H : (some t3) = some r := H
 have A2 := Aside0.mk A20
 clear A20
 obtain rfl := Option.some.inj H
 go_enter Tryd.func69, Tryd.ntmps69
 go_wp2_with (first | ((with_reducible refine gate_callee (f := 24) rfl ?_); refine zj 4 Tryd.func24 #[.int .i64 a0, .int .i64 0, .int .i64 9999] ?_; (with_reducible refine (spec_l1In.calls a0 0 9999 t3 _ A2.out).mono ?_); rintro e w' ⟨rfl, ⟨nd, rfl⟩⟩; refine ⟨_, rfl, ?_⟩))
 go_ret
 exact ⟨zs, zd⟩
set_option maxHeartbeats 8000000 in
set_option maxRecDepth 100000 in
theorem spec_l5At.calls (a0 : Int) (r : Bool) (w : World) (h : spec_l5At.f a0 = some r) :
 Calls Tryd.prog 70 #[.int .i64 a0] w fun e w' => e = .returned (.bool r) ∧ Drawn0 w w' := by
 have H : ((spec_l1In.f a0 1 1000000).bind fun t3 => (some t3)) = some r := h
 clear h
 replace H := Option.bind_eq_some_iff.mp H
 obtain ⟨t3, A20, H⟩ := H
 replace H : (some t3) = some r := H
 have A2 := Aside0.mk A20
 clear A20
 obtain rfl := Option.some.inj H
 go_enter Tryd.func70, Tryd.ntmps70
 go_wp2_with (first | ((with_reducible refine gate_callee (f := 24) rfl ?_); refine zj 4 Tryd.func24 #[.int .i64 a0, .int .i64 1, .int .i64 1000000] ?_; (with_reducible refine (spec_l1In.calls a0 1 1000000 t3 _ A2.out).mono ?_); rintro e w' ⟨rfl, ⟨nd, rfl⟩⟩; refine ⟨_, rfl, ?_⟩))
 go_ret
 exact ⟨zs, zd⟩
end Go.Proofs.YtldlnafakfigeaaDoor.P
