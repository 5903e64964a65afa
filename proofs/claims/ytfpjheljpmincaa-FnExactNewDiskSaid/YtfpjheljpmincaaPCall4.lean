-- Printed by this session's own program over the kit's print (wip/tools/mp.py). Not trusted: Lean checks it.
import Derived.Test.YtfpjheljpmincaaP0
import Derived.Test.YtfpjheljpmincaaPCall1
import Derived.Test.YtfpjheljpmincaaPCall2
import Derived.Test.YtfpjheljpmincaaPCall3
import Derived.Test.YtfpjheljpmincaaPDall0
import Derived.Test.YtfpjheljpmincaaWRepsOne
import Derived.Test.YtfpjheljpmincaaLv
import Derived.Test.YtfpjheljpmincaaLv
import Derived.Test.YtfpjheljpmincaaLb
import Derived.IntWalk
import Derived.Shelf.Abstract
import Derived.Test.YtfpjheljpmincaaZz
namespace Go.Proofs.Ytfpjheljpmincaa.P
open Go.RowKit Go.Proofs.YtfpjheljpmincaaW.PrintWords Go.Proofs.YtfpjheljpmincaaW.PrintLast Go.Proofs.YtfpjheljpmincaaW.PrintMore
attribute [local go_sem] max2_int min2_int max_two min_two max_three min_three max_four min_four   -- for this text's walks alone
set_option linter.unusedVariables false
set_option linter.unusedSimpArgs false

/-! ### laws_heldLooseS: function 25 -/
set_option maxHeartbeats 40000000 in
set_option maxRecDepth 100000 in
theorem laws_heldLooseS.calls (k : Nat) (A0 : Option Addr) (c0 : Nat) (l0 : List (S54)) (a1 : Int) (r : Int) (w : World) (hr0 : Kd.C k54 w A0 l0.length l0) (hc0 : l0.length ≤ c0) (h : laws_heldLooseS.f k l0 a1 = some r) :
 Calls Try.prog 25 #[.slice A0 l0.length c0, .int .i64 a1] w fun e w' => e = .returned (.int .i64 r) ∧ Drawn0 w w' := by
 have HR0 := Aside0.mk hr0
 have HC0 := Aside0.mk hc0
 clear hr0 hc0
 have H : (laws_heldLooseS.l0 k l0 a1 0) = some r := h
 clear h
 have H' := Aside0.mk H
 clear H
 go_enter Try.func25, Try.ntmps25
 go_wp2
 go_loopg [1, 5] k (fun kq v1 v5 w' => ∃ (x1_1 : Int) (x5_1 : Int), v1 = .int .i64 x1_1 ∧ v5 = .int .i64 x5_1 ∧ Aside0 (laws_heldLooseS.l0 kq l0 x1_1 x5_1 = some r) ∧ Aside0 (kq ≤ k) ∧ Drawn0 w w')
 case atStart => exact ⟨(a1), (0), (by first | rfl | (simp; done) | (simp [*]; done)), (by first | rfl | (simp; done) | (simp [*]; done)), H', ⟨Nat.le_refl _⟩, by repeat (first | exact Drawn0.refl _ | apply Drawn0.step)⟩
 case round =>
  clear H'
  try clear c2
  try clear p2
  obtain ⟨x1_1, x5_1, rfl, rfl, HA, HK1, ⟨m1, rfl⟩⟩ := hrel
  cases gk with
  | zero => exact absurd HA.out (by simp [laws_heldLooseS.l0])
  | succ k1 =>
   have H := HA.out
   clear HA
   simp only [laws_heldLooseS.l0] at H
   by_cases c3 : x5_1 < (l0.length : Int)
   ·rw [if_pos c3] at H
    have c3b0 : decide (x5_1 < (l0.length : Int)) = true := decide_eq_true c3
    clear c3
    by_cases c4 : 0 ≤ x5_1
    ·rw [if_pos c4] at H
     have c4b0 : decide (0 ≤ x5_1) = true := decide_eq_true c4
     clear c4
     by_cases c5 : ((rd_T54 l0 x5_1).f0) = x1_1
     ·rw [if_pos c5] at H
      have c5b0 : (((rd_T54 l0 x5_1).f0) == x1_1) = true := beq_iff_eq.mpr c5
      have c5b1 : (((rd_T54 l0 x5_1).f0) != x1_1) = false := bne_eq_false_iff_eq.mpr c5
      clear c5
      by_cases c6 : ((rd_T54 l0 x5_1).f1) = (wrap64 (x1_1 + 1))
      ·rw [if_pos c6] at H
       have c6b0 : (((rd_T54 l0 x5_1).f1) == (wrap64 (x1_1 + 1))) = true := beq_iff_eq.mpr c6
       have c6b1 : (((rd_T54 l0 x5_1).f1) != (wrap64 (x1_1 + 1))) = false := bne_eq_false_iff_eq.mpr c6
       clear c6
       replace H := Option.bind_eq_some_iff.mp H
       obtain ⟨t214, A70, H⟩ := H
       replace H : (if t214 < 0 then (some (-1)) else (laws_heldLooseS.l0 k1 l0 t214 (wrap64 (x5_1 + 1)))) = some r := H
       have A7 := Aside0.mk A70
       clear A70
       have HX_ := Aside0.mk H
       clear H
       have p211 : 0 ≤ (x5_1 : Int) := of_decide_eq_true (by first | (with_reducible assumption) | assumption)
       have q211 : x5_1 < (l0.length : Int) := of_decide_eq_true (by first | (with_reducible assumption) | assumption)
       obtain ⟨ad211, A211_2, c211_2, e211, hx211_0, hx211_1, hx211_2, hl211_2, hi211_2⟩ := at_T54 HR0.out x5_1 p211 q211
       cases e211
       have HR211_2 := Aside0.mk hi211_2
       have HC211_2 := Aside0.mk hl211_2
       clear hi211_2 hl211_2
       replace p211 := eq_true p211
       replace q211 := eq_true q211
       have p212 : 0 ≤ (x5_1 : Int) := of_decide_eq_true (by first | (with_reducible assumption) | assumption)
       have q212 : x5_1 < (l0.length : Int) := of_decide_eq_true (by first | (with_reducible assumption) | assumption)
       obtain ⟨ad212, A212_2, c212_2, e212, hx212_0, hx212_1, hx212_2, hl212_2, hi212_2⟩ := at_T54 HR0.out x5_1 p212 q212
       obtain rfl : ad211 = ad212 := (by injection e212)
       have HR212_2 := Aside0.mk hi212_2
       have HC212_2 := Aside0.mk hl212_2
       clear hi212_2 hl212_2
       replace p212 := eq_true p212
       replace q212 := eq_true q212
       have ea_ := Option.some.inj (hx211_2.symm.trans hx212_2)
       injection ea_ with ea_ en_ ec_
       subst ea_
       subst ec_
       clear en_
       have p213 : 0 ≤ (x5_1 : Int) := of_decide_eq_true (by first | (with_reducible assumption) | assumption)
       have q213 : x5_1 < (l0.length : Int) := of_decide_eq_true (by first | (with_reducible assumption) | assumption)
       obtain ⟨ad213, A213_2, c213_2, e213, hx213_0, hx213_1, hx213_2, hl213_2, hi213_2⟩ := at_T54 HR0.out x5_1 p213 q213
       obtain rfl : ad211 = ad213 := (by injection e213)
       have HR213_2 := Aside0.mk hi213_2
       have HC213_2 := Aside0.mk hl213_2
       clear hi213_2 hl213_2
       replace p213 := eq_true p213
       replace q213 := eq_true q213
       have ea_ := Option.some.inj (hx211_2.symm.trans hx213_2)
       injection ea_ with ea_ en_ ec_
       subst ea_
       subst ec_
       clear en_
       have H := HX_.out
       clear HX_
       by_cases c8 : t214 < 0
       ·rw [if_pos c8] at H
        have c8b0 : decide (t214 < 0) = true := decide_eq_true c8
        clear c8
        obtain rfl := Option.some.inj H
        go_wp2_with (first | ((with_reducible refine gate_callee (f := 29) rfl ?_); refine goesL_ (some 36) rfl rfl Try.func29 (by kernel_rfl) rfl #[.slice A211_2 ((rd_T54 l0 x5_1).f2).length c211_2, .int .i64 (wrap64 ((wrap64 (x1_1 + 1)) + 1))] rfl (by (try simp only [List.map_toArray, List.map_cons, List.map_nil]); first | done | rfl | (simp only [List.length_drop, List.length_take]; rfl)) ?_; (with_reducible refine (laws_heldByteS.calls k1 _ _ ((rd_T54 l0 x5_1).f2) (wrap64 ((wrap64 (x1_1 + 1)) + 1)) t214 _ ?side1 ?side2 A7.out).mono ?_); (case side1 => repeat (first | exact HR213_2.out | (with_reducible refine Kd.C_alloc ?_ _) | (with_reducible refine Kd.C_drewN ?_ _) | (with_reducible refine Kd.C_drew ?_))); (case side2 => exact HC213_2.out); rintro e w' ⟨rfl, ⟨nd, rfl⟩⟩; refine ⟨_, rfl, ?_⟩))
        go_ret
        exact ⟨by first | rfl | (simp; done) | (simp [*]; done), by repeat (first | exact Drawn0.refl _ | apply Drawn0.step)⟩
       ·rw [if_neg c8] at H
        have c8b0 : decide (t214 < 0) = false := decide_eq_false c8
        clear c8
        have H' := Aside0.mk H
        clear H
        go_wp2_with (first | ((with_reducible refine gate_callee (f := 29) rfl ?_); refine goesL_ (some 36) rfl rfl Try.func29 (by kernel_rfl) rfl #[.slice A211_2 ((rd_T54 l0 x5_1).f2).length c211_2, .int .i64 (wrap64 ((wrap64 (x1_1 + 1)) + 1))] rfl (by (try simp only [List.map_toArray, List.map_cons, List.map_nil]); first | done | rfl | (simp only [List.length_drop, List.length_take]; rfl)) ?_; (with_reducible refine (laws_heldByteS.calls k1 _ _ ((rd_T54 l0 x5_1).f2) (wrap64 ((wrap64 (x1_1 + 1)) + 1)) t214 _ ?side1 ?side2 A7.out).mono ?_); (case side1 => repeat (first | exact HR213_2.out | (with_reducible refine Kd.C_alloc ?_ _) | (with_reducible refine Kd.C_drewN ?_ _) | (with_reducible refine Kd.C_drew ?_))); (case side2 => exact HC213_2.out); rintro e w' ⟨rfl, ⟨nd, rfl⟩⟩; refine ⟨_, rfl, ?_⟩))
        go_roundg k1
        case measure => have := HK1.out; omega
        case rel => exact ⟨(t214), (wrap64 (x5_1 + 1)), (by first | rfl | (simp; done) | (simp [*]; done)), (by first | rfl | (simp; done) | (simp [*]; done)), H', ⟨by have := HK1.out; omega⟩, by repeat (first | exact Drawn0.refl _ | apply Drawn0.step)⟩
      ·rw [if_neg c6] at H
       have c6b0 : (((rd_T54 l0 x5_1).f1) == (wrap64 (x1_1 + 1))) = false := beq_eq_false_iff_ne.mpr c6
       have c6b1 : (((rd_T54 l0 x5_1).f1) != (wrap64 (x1_1 + 1))) = true := bne_iff_ne.mpr c6
       obtain rfl := Option.some.inj H
       have p211 : 0 ≤ (x5_1 : Int) := of_decide_eq_true (by first | (with_reducible assumption) | assumption)
       have q211 : x5_1 < (l0.length : Int) := of_decide_eq_true (by first | (with_reducible assumption) | assumption)
       obtain ⟨ad211, A211_2, c211_2, e211, hx211_0, hx211_1, hx211_2, hl211_2, hi211_2⟩ := at_T54 HR0.out x5_1 p211 q211
       cases e211
       have HR211_2 := Aside0.mk hi211_2
       have HC211_2 := Aside0.mk hl211_2
       clear hi211_2 hl211_2
       replace p211 := eq_true p211
       replace q211 := eq_true q211
       have p212 : 0 ≤ (x5_1 : Int) := of_decide_eq_true (by first | (with_reducible assumption) | assumption)
       have q212 : x5_1 < (l0.length : Int) := of_decide_eq_true (by first | (with_reducible assumption) | assumption)
       obtain ⟨ad212, A212_2, c212_2, e212, hx212_0, hx212_1, hx212_2, hl212_2, hi212_2⟩ := at_T54 HR0.out x5_1 p212 q212
       obtain rfl : ad211 = ad212 := (by injection e212)
       have HR212_2 := Aside0.mk hi212_2
       have HC212_2 := Aside0.mk hl212_2
       clear hi212_2 hl212_2
       replace p212 := eq_true p212
       replace q212 := eq_true q212
       have ea_ := Option.some.inj (hx211_2.symm.trans hx212_2)
       injection ea_ with ea_ en_ ec_
       subst ea_
       subst ec_
       clear en_
       go_wp2
       go_ret
       exact ⟨by first | rfl | (simp; done) | (simp [*]; done), by repeat (first | exact Drawn0.refl _ | apply Drawn0.step)⟩
     ·rw [if_neg c5] at H
      have c5b0 : (((rd_T54 l0 x5_1).f0) == x1_1) = false := beq_eq_false_iff_ne.mpr c5
      have c5b1 : (((rd_T54 l0 x5_1).f0) != x1_1) = true := bne_iff_ne.mpr c5
      obtain rfl := Option.some.inj H
      have p211 : 0 ≤ (x5_1 : Int) := of_decide_eq_true (by first | (with_reducible assumption) | assumption)
      have q211 : x5_1 < (l0.length : Int) := of_decide_eq_true (by first | (with_reducible assumption) | assumption)
      obtain ⟨ad211, A211_2, c211_2, e211, hx211_0, hx211_1, hx211_2, hl211_2, hi211_2⟩ := at_T54 HR0.out x5_1 p211 q211
      cases e211
      have HR211_2 := Aside0.mk hi211_2
      have HC211_2 := Aside0.mk hl211_2
      clear hi211_2 hl211_2
      replace p211 := eq_true p211
      replace q211 := eq_true q211
      go_wp2
      go_ret
      exact ⟨by first | rfl | (simp; done) | (simp [*]; done), by repeat (first | exact Drawn0.refl _ | apply Drawn0.step)⟩
    ·rw [if_neg c4] at H
     exact absurd H (by simp)
   ·rw [if_neg c3] at H
    have c3b0 : decide (x5_1 < (l0.length : Int)) = false := decide_eq_false c3
    clear c3
    obtain rfl := Option.some.inj H
    go_wp2
    go_ret
    exact ⟨by first | rfl | (simp; done) | (simp [*]; done), by repeat (first | exact Drawn0.refl _ | apply Drawn0.step)⟩

-- NEEDS Derived.Test.@N@Lv
/-! ### laws_heldDisk: function 15 -/
set_option maxHeartbeats 8000000 in
set_option maxRecDepth 100000 in
theorem laws_heldDisk.calls (k : Nat) (A0_0 : Option Addr) (c0_0 : Nat) (l0_0 : List (List Int)) (A0_1 : Option Addr) (c0_1 : Nat) (l0_1 : List (S54)) (a1 : Int) (r : Int) (w : World) (hr0_0 : Kd.C (Kd.slice 5 (Kd.int .u8)) w A0_0 l0_0.length l0_0) (hc0_0 : l0_0.length ≤ c0_0) (hr0_1 : Kd.C k54 w A0_1 l0_1.length l0_1) (hc0_1 : l0_1.length ≤ c0_1) (h : laws_heldDisk.f k l0_0 l0_1 a1 = some r) :
  Calls Try.prog 15 #[.agg #[.slice A0_0 l0_0.length c0_0, .slice A0_1 l0_1.length c0_1], .int .i64 a1] w fun e w' => e = .returned (.int .i64 r) ∧ Below w.heap.size w w' := by
 have hu25 := Try.underlying25
 have HR0_0 := Aside0.mk hr0_0
 have HC0_0 := Aside0.mk hc0_0
 clear hr0_0 hc0_0
 have HR0_1 := Aside0.mk hr0_1
 have HC0_1 := Aside0.mk hc0_1
 clear hr0_1 hc0_1
 have HB := Aside0.mk (Below.refl w.heap.size w)
 have H : ((laws_heldByteSS.f k l0_0 a1).bind fun t216 => (if t216 < 0 then (some (-1)) else ((laws_heldLooseS.f k l0_1 t216).bind fun t217 => (if t217 < 0 then (some (-1)) else (some t217))))) = some r := h
 clear h
 replace H := Option.bind_eq_some_iff.mp H
 obtain ⟨t216, A30, H⟩ := H
 replace H : (if t216 < 0 then (some (-1)) else ((laws_heldLooseS.f k l0_1 t216).bind fun t217 => (if t217 < 0 then (some (-1)) else (some t217)))) = some r := H
 have A3 := Aside0.mk A30
 clear A30
 by_cases c4 : t216 < 0
 ·rw [if_pos c4] at H
  have c4b0 : decide (t216 < 0) = true := decide_eq_true c4
  clear c4
  obtain rfl := Option.some.inj H
  go_enter Try.func15, Try.ntmps15
  go_wp2_with (first | ((with_reducible refine gate_dst (N := 2) rfl ?_); refine box_event ?hg (N := 2) ?hd (cs := #[.slice A0_0 l0_0.length c0_0, .slice A0_1 l0_1.length c0_1]) (t := 25) ?hr ?_; (case hd => rfl); (case hg => rfl); (case hr => first | (go_simp; done) | (go_simp; rfl)); intro gb215 hg w5 hbox hb; have n0_ := Aside0.mk (below_step (by repeat (first | (with_reducible first | exact HB.out | apply below_alloc | apply pw_below_drewN | apply below_drew1) | exact HB.out)) hb); have n1_ := Aside0.mk (hbox); have n2_ := Aside0.mk ((by rw [hg]; exact (below_size (by repeat (first | (with_reducible first | exact HB.out | apply below_alloc | apply pw_below_drewN | apply below_drew1) | exact HB.out))) : w.heap.size ≤ gb215)); have n3_ := Aside0.mk ((by rw [hg]; exact (below_size (by repeat (first | (with_reducible first | exact HB.out | apply below_alloc | apply pw_below_drewN | apply below_drew1) | exact HB.out))) : w.heap.size ≤ gb215)); clear HB; have HB := n0_; have BK215 := n1_; have GW215 := n2_; have GE215 := n3_; clear n0_ n1_ n2_ n3_; clear hb hbox hg; obtain ⟨hcz6_0, hcz6_1, hfz6_0, hfz6_1⟩ := Go.Proofs.Ytfpjheljpmincaa.Lv.blks2 BK215.out) | ((with_reducible refine gate_callee (f := 24) rfl ?_); refine goesL_ (some 8) rfl rfl Try.func24 (by kernel_rfl) rfl #[.slice A0_0 l0_0.length c0_0, .int .i64 a1] rfl (by (try simp only [List.map_toArray, List.map_cons, List.map_nil]); first | done | rfl | (simp only [List.length_drop, List.length_take]; rfl)) ?_; (with_reducible refine (laws_heldByteSS.calls k _ _ l0_0 a1 t216 _ ?side1 ?side2 A3.out).mono ?_); (case side1 => repeat (first | exact (Kd.C_below HR0_0.out HB.out) | (with_reducible refine Kd.C_alloc ?_ _) | (with_reducible refine Kd.C_drewN ?_ _) | (with_reducible refine Kd.C_drew ?_))); (case side2 => exact HC0_0.out); rintro e w' ⟨rfl, ⟨nd, rfl⟩⟩; refine ⟨_, rfl, ?_⟩))
  go_ret
  exact ⟨by first | rfl | (simp [errW_none, errW_some] <;> rfl) | (simp [*, errW_none, errW_some] <;> rfl), by repeat (first | (with_reducible first | exact HB.out | apply below_alloc | apply pw_below_drewN | apply below_drew1 | refine below_set ?_ GE215.out) | exact HB.out)⟩
 ·rw [if_neg c4] at H
  have c4b0 : decide (t216 < 0) = false := decide_eq_false c4
  clear c4
  replace H := Option.bind_eq_some_iff.mp H
  obtain ⟨t217, A70, H⟩ := H
  replace H : (if t217 < 0 then (some (-1)) else (some t217)) = some r := H
  have A7 := Aside0.mk A70
  clear A70
  by_cases c8 : t217 < 0
  ·rw [if_pos c8] at H
   have c8b0 : decide (t217 < 0) = true := decide_eq_true c8
   clear c8
   obtain rfl := Option.some.inj H
   go_enter Try.func15, Try.ntmps15
   go_wp2_with (first | ((with_reducible refine gate_dst (N := 2) rfl ?_); refine box_event ?hg (N := 2) ?hd (cs := #[.slice A0_0 l0_0.length c0_0, .slice A0_1 l0_1.length c0_1]) (t := 25) ?hr ?_; (case hd => rfl); (case hg => rfl); (case hr => first | (go_simp; done) | (go_simp; rfl)); intro gb215 hg w9 hbox hb; have n0_ := Aside0.mk (below_step (by repeat (first | (with_reducible first | exact HB.out | apply below_alloc | apply pw_below_drewN | apply below_drew1) | exact HB.out)) hb); have n1_ := Aside0.mk (hbox); have n2_ := Aside0.mk ((by rw [hg]; exact (below_size (by repeat (first | (with_reducible first | exact HB.out | apply below_alloc | apply pw_below_drewN | apply below_drew1) | exact HB.out))) : w.heap.size ≤ gb215)); have n3_ := Aside0.mk ((by rw [hg]; exact (below_size (by repeat (first | (with_reducible first | exact HB.out | apply below_alloc | apply pw_below_drewN | apply below_drew1) | exact HB.out))) : w.heap.size ≤ gb215)); clear HB; have HB := n0_; have BK215 := n1_; have GW215 := n2_; have GE215 := n3_; clear n0_ n1_ n2_ n3_; clear hb hbox hg; obtain ⟨hcz10_0, hcz10_1, hfz10_0, hfz10_1⟩ := Go.Proofs.Ytfpjheljpmincaa.Lv.blks2 BK215.out) | ((with_reducible refine gate_callee (f := 24) rfl ?_); refine goesL_ (some 8) rfl rfl Try.func24 (by kernel_rfl) rfl #[.slice A0_0 l0_0.length c0_0, .int .i64 a1] rfl (by (try simp only [List.map_toArray, List.map_cons, List.map_nil]); first | done | rfl | (simp only [List.length_drop, List.length_take]; rfl)) ?_; (with_reducible refine (laws_heldByteSS.calls k _ _ l0_0 a1 t216 _ ?side1 ?side2 A3.out).mono ?_); (case side1 => repeat (first | exact (Kd.C_below HR0_0.out HB.out) | (with_reducible refine Kd.C_alloc ?_ _) | (with_reducible refine Kd.C_drewN ?_ _) | (with_reducible refine Kd.C_drew ?_))); (case side2 => exact HC0_0.out); rintro e w' ⟨rfl, ⟨nd, rfl⟩⟩; refine ⟨_, rfl, ?_⟩) | ((with_reducible refine gate_callee (f := 25) rfl ?_); refine goesL_ (some 14) rfl rfl Try.func25 (by kernel_rfl) rfl #[.slice A0_1 l0_1.length c0_1, .int .i64 t216] rfl (by (try simp only [List.map_toArray, List.map_cons, List.map_nil]); first | done | rfl | (simp only [List.length_drop, List.length_take]; rfl)) ?_; (with_reducible refine (laws_heldLooseS.calls k _ _ l0_1 t216 t217 _ ?side1 ?side2 A7.out).mono ?_); (case side1 => repeat (first | exact (Kd.C_below HR0_1.out (by repeat (first | (with_reducible first | exact HB.out | apply below_alloc | apply pw_below_drewN | apply below_drew1 | refine below_set ?_ GE215.out) | exact HB.out))) | (with_reducible refine Kd.C_alloc ?_ _) | (with_reducible refine Kd.C_drewN ?_ _) | (with_reducible refine Kd.C_drew ?_))); (case side2 => exact HC0_1.out); rintro e w' ⟨rfl, ⟨nd, rfl⟩⟩; refine ⟨_, rfl, ?_⟩))
   go_ret
   exact ⟨by first | rfl | (simp [errW_none, errW_some] <;> rfl) | (simp [*, errW_none, errW_some] <;> rfl), by repeat (first | (with_reducible first | exact HB.out | apply below_alloc | apply pw_below_drewN | apply below_drew1 | refine below_set ?_ GE215.out) | exact HB.out)⟩
  ·rw [if_neg c8] at H
   have c8b0 : decide (t217 < 0) = false := decide_eq_false c8
   clear c8
   obtain rfl := Option.some.inj H
   go_enter Try.func15, Try.ntmps15
   go_wp2_with (first | ((with_reducible refine gate_dst (N := 2) rfl ?_); refine box_event ?hg (N := 2) ?hd (cs := #[.slice A0_0 l0_0.length c0_0, .slice A0_1 l0_1.length c0_1]) (t := 25) ?hr ?_; (case hd => rfl); (case hg => rfl); (case hr => first | (go_simp; done) | (go_simp; rfl)); intro gb215 hg w11 hbox hb; have n0_ := Aside0.mk (below_step (by repeat (first | (with_reducible first | exact HB.out | apply below_alloc | apply pw_below_drewN | apply below_drew1) | exact HB.out)) hb); have n1_ := Aside0.mk (hbox); have n2_ := Aside0.mk ((by rw [hg]; exact (below_size (by repeat (first | (with_reducible first | exact HB.out | apply below_alloc | apply pw_below_drewN | apply below_drew1) | exact HB.out))) : w.heap.size ≤ gb215)); have n3_ := Aside0.mk ((by rw [hg]; exact (below_size (by repeat (first | (with_reducible first | exact HB.out | apply below_alloc | apply pw_below_drewN | apply below_drew1) | exact HB.out))) : w.heap.size ≤ gb215)); clear HB; have HB := n0_; have BK215 := n1_; have GW215 := n2_; have GE215 := n3_; clear n0_ n1_ n2_ n3_; clear hb hbox hg; obtain ⟨hcz12_0, hcz12_1, hfz12_0, hfz12_1⟩ := Go.Proofs.Ytfpjheljpmincaa.Lv.blks2 BK215.out) | ((with_reducible refine gate_callee (f := 24) rfl ?_); refine goesL_ (some 8) rfl rfl Try.func24 (by kernel_rfl) rfl #[.slice A0_0 l0_0.length c0_0, .int .i64 a1] rfl (by (try simp only [List.map_toArray, List.map_cons, List.map_nil]); first | done | rfl | (simp only [List.length_drop, List.length_take]; rfl)) ?_; (with_reducible refine (laws_heldByteSS.calls k _ _ l0_0 a1 t216 _ ?side1 ?side2 A3.out).mono ?_); (case side1 => repeat (first | exact (Kd.C_below HR0_0.out HB.out) | (with_reducible refine Kd.C_alloc ?_ _) | (with_reducible refine Kd.C_drewN ?_ _) | (with_reducible refine Kd.C_drew ?_))); (case side2 => exact HC0_0.out); rintro e w' ⟨rfl, ⟨nd, rfl⟩⟩; refine ⟨_, rfl, ?_⟩) | ((with_reducible refine gate_callee (f := 25) rfl ?_); refine goesL_ (some 14) rfl rfl Try.func25 (by kernel_rfl) rfl #[.slice A0_1 l0_1.length c0_1, .int .i64 t216] rfl (by (try simp only [List.map_toArray, List.map_cons, List.map_nil]); first | done | rfl | (simp only [List.length_drop, List.length_take]; rfl)) ?_; (with_reducible refine (laws_heldLooseS.calls k _ _ l0_1 t216 t217 _ ?side1 ?side2 A7.out).mono ?_); (case side1 => repeat (first | exact (Kd.C_below HR0_1.out (by repeat (first | (with_reducible first | exact HB.out | apply below_alloc | apply pw_below_drewN | apply below_drew1 | refine below_set ?_ GE215.out) | exact HB.out))) | (with_reducible refine Kd.C_alloc ?_ _) | (with_reducible refine Kd.C_drewN ?_ _) | (with_reducible refine Kd.C_drew ?_))); (case side2 => exact HC0_1.out); rintro e w' ⟨rfl, ⟨nd, rfl⟩⟩; refine ⟨_, rfl, ?_⟩))
   go_ret
   exact ⟨by first | rfl | (simp [errW_none, errW_some] <;> rfl) | (simp [*, errW_none, errW_some] <;> rfl), by repeat (first | (with_reducible first | exact HB.out | apply below_alloc | apply pw_below_drewN | apply below_drew1 | refine below_set ?_ GE215.out) | exact HB.out)⟩

-- NEEDS Derived.Test.@N@Lv
/-! ### laws_heldDiskResult: function 8 -/
set_option maxHeartbeats 8000000 in
set_option maxRecDepth 100000 in
theorem laws_heldDiskResult.calls (k : Nat) (a0_0 : Int) (A0_1 : Option Addr) (c0_1 : Nat) (l0_1 : List (List Int)) (A0_2 : Option Addr) (c0_2 : Nat) (l0_2 : List (S54)) (a1 : Int) (r : Int) (w : World) (hr0_1 : Kd.C (Kd.slice 5 (Kd.int .u8)) w A0_1 l0_1.length l0_1) (hc0_1 : l0_1.length ≤ c0_1) (hr0_2 : Kd.C k54 w A0_2 l0_2.length l0_2) (hc0_2 : l0_2.length ≤ c0_2) (h : laws_heldDiskResult.f k a0_0 l0_1 l0_2 a1 = some r) :
  Calls Try.prog 8 #[.agg #[.int .i64 a0_0, .slice A0_1 l0_1.length c0_1, .slice A0_2 l0_2.length c0_2], .int .i64 a1] w fun e w' => e = .returned (.int .i64 r) ∧ Below w.heap.size w w' := by
 have hu27 := Try.underlying27
 have hu25 := Try.underlying25
 have HR0_1 := Aside0.mk hr0_1
 have HC0_1 := Aside0.mk hc0_1
 clear hr0_1 hc0_1
 have HR0_2 := Aside0.mk hr0_2
 have HC0_2 := Aside0.mk hc0_2
 clear hr0_2 hc0_2
 have HB := Aside0.mk (Below.refl w.heap.size w)
 have H : ((laws_heldDisk.f k l0_1 l0_2 a1).bind fun t219 => (if t219 < 0 then (some (-1)) else (some t219))) = some r := h
 clear h
 replace H := Option.bind_eq_some_iff.mp H
 obtain ⟨t219, A30, H⟩ := H
 replace H : (if t219 < 0 then (some (-1)) else (some t219)) = some r := H
 have A3 := Aside0.mk A30
 clear A30
 by_cases c4 : t219 < 0
 ·rw [if_pos c4] at H
  have c4b0 : decide (t219 < 0) = true := decide_eq_true c4
  clear c4
  obtain rfl := Option.some.inj H
  go_enter Try.func8, Try.ntmps8
  go_wp2_with (first | ((with_reducible refine gate_dst (N := 2) rfl ?_); refine box_event ?hg (N := 2) ?hd (cs := #[.int .i64 a0_0, .slice A0_1 l0_1.length c0_1, .slice A0_2 l0_2.length c0_2]) (t := 27) ?hr ?_; (case hd => rfl); (case hg => rfl); (case hr => first | (go_simp; done) | (go_simp; rfl)); intro gb218 hg w5 hbox hb; have n0_ := Aside0.mk (below_step (by repeat (first | (with_reducible first | exact HB.out | apply below_alloc | apply pw_below_drewN | apply below_drew1) | exact HB.out)) hb); have n1_ := Aside0.mk (hbox); have n2_ := Aside0.mk ((by rw [hg]; exact (below_size (by repeat (first | (with_reducible first | exact HB.out | apply below_alloc | apply pw_below_drewN | apply below_drew1) | exact HB.out))) : w.heap.size ≤ gb218)); have n3_ := Aside0.mk ((by rw [hg]; exact (below_size (by repeat (first | (with_reducible first | exact HB.out | apply below_alloc | apply pw_below_drewN | apply below_drew1) | exact HB.out))) : w.heap.size ≤ gb218)); clear HB; have HB := n0_; have BK218 := n1_; have GW218 := n2_; have GE218 := n3_; clear n0_ n1_ n2_ n3_; clear hb hbox hg; obtain ⟨hcz6_0, hcz6_1, hcz6_2, hfz6_0, hfz6_1, hfz6_2⟩ := Go.Proofs.Ytfpjheljpmincaa.Lv.blks3 BK218.out) | ((with_reducible refine gate_callee (f := 15) rfl ?_); refine goesL_ (some 8) rfl rfl Try.func15 (by kernel_rfl) rfl #[.agg #[.slice A0_1 l0_1.length c0_1, .slice A0_2 l0_2.length c0_2], .int .i64 a1] rfl (by (try simp only [List.map_toArray, List.map_cons, List.map_nil]); first | done | rfl | (simp only [List.length_drop, List.length_take]; rfl)) ?_; (with_reducible refine (laws_heldDisk.calls k _ _ l0_1 _ _ l0_2 a1 t219 _ ?side1 ?side2 ?side3 ?side4 A3.out).mono ?_); (case side1 => repeat (first | exact (Kd.C_below HR0_1.out HB.out) | (with_reducible refine Kd.C_alloc ?_ _) | (with_reducible refine Kd.C_drewN ?_ _) | (with_reducible refine Kd.C_drew ?_))); (case side2 => exact HC0_1.out); (case side3 => repeat (first | exact (Kd.C_below HR0_2.out HB.out) | (with_reducible refine Kd.C_alloc ?_ _) | (with_reducible refine Kd.C_drewN ?_ _) | (with_reducible refine Kd.C_drew ?_))); (case side4 => exact HC0_2.out); rintro e w7 ⟨rfl, hb⟩; refine ⟨_, rfl, ?_⟩; have n0_ := Aside0.mk (blk_below (g := gb218) (o := .cells #[.int .i64 a0_0, .slice A0_1 l0_1.length c0_1, .slice A0_2 l0_2.length c0_2] 27 (0, 0)) (by (with_reducible repeat (first | refine blk_drewN ?_ _ | refine blk_drew ?_ | refine blk_alloc ?_ _)); exact BK218.out) hb); have n1_ := Aside0.mk (below_step (by repeat (first | (with_reducible first | exact HB.out | apply below_alloc | apply pw_below_drewN | apply below_drew1 | refine below_set ?_ GE218.out) | exact HB.out)) hb); clear BK218; clear HB; have BK218 := n0_; have HB := n1_; clear n0_ n1_; (try clear hb); (try clear hb2); (try clear hk); (try clear hi)))
  go_ret
  exact ⟨by first | rfl | (simp [errW_none, errW_some] <;> rfl) | (simp [*, errW_none, errW_some] <;> rfl), by repeat (first | (with_reducible first | exact HB.out | apply below_alloc | apply pw_below_drewN | apply below_drew1 | refine below_set ?_ GE218.out) | exact HB.out)⟩
 ·rw [if_neg c4] at H
  have c4b0 : decide (t219 < 0) = false := decide_eq_false c4
  clear c4
  obtain rfl := Option.some.inj H
  go_enter Try.func8, Try.ntmps8
  go_wp2_with (first | ((with_reducible refine gate_dst (N := 2) rfl ?_); refine box_event ?hg (N := 2) ?hd (cs := #[.int .i64 a0_0, .slice A0_1 l0_1.length c0_1, .slice A0_2 l0_2.length c0_2]) (t := 27) ?hr ?_; (case hd => rfl); (case hg => rfl); (case hr => first | (go_simp; done) | (go_simp; rfl)); intro gb218 hg w8 hbox hb; have n0_ := Aside0.mk (below_step (by repeat (first | (with_reducible first | exact HB.out | apply below_alloc | apply pw_below_drewN | apply below_drew1) | exact HB.out)) hb); have n1_ := Aside0.mk (hbox); have n2_ := Aside0.mk ((by rw [hg]; exact (below_size (by repeat (first | (with_reducible first | exact HB.out | apply below_alloc | apply pw_below_drewN | apply below_drew1) | exact HB.out))) : w.heap.size ≤ gb218)); have n3_ := Aside0.mk ((by rw [hg]; exact (below_size (by repeat (first | (with_reducible first | exact HB.out | apply below_alloc | apply pw_below_drewN | apply below_drew1) | exact HB.out))) : w.heap.size ≤ gb218)); clear HB; have HB := n0_; have BK218 := n1_; have GW218 := n2_; have GE218 := n3_; clear n0_ n1_ n2_ n3_; clear hb hbox hg; obtain ⟨hcz9_0, hcz9_1, hcz9_2, hfz9_0, hfz9_1, hfz9_2⟩ := Go.Proofs.Ytfpjheljpmincaa.Lv.blks3 BK218.out) | ((with_reducible refine gate_callee (f := 15) rfl ?_); refine goesL_ (some 8) rfl rfl Try.func15 (by kernel_rfl) rfl #[.agg #[.slice A0_1 l0_1.length c0_1, .slice A0_2 l0_2.length c0_2], .int .i64 a1] rfl (by (try simp only [List.map_toArray, List.map_cons, List.map_nil]); first | done | rfl | (simp only [List.length_drop, List.length_take]; rfl)) ?_; (with_reducible refine (laws_heldDisk.calls k _ _ l0_1 _ _ l0_2 a1 t219 _ ?side1 ?side2 ?side3 ?side4 A3.out).mono ?_); (case side1 => repeat (first | exact (Kd.C_below HR0_1.out HB.out) | (with_reducible refine Kd.C_alloc ?_ _) | (with_reducible refine Kd.C_drewN ?_ _) | (with_reducible refine Kd.C_drew ?_))); (case side2 => exact HC0_1.out); (case side3 => repeat (first | exact (Kd.C_below HR0_2.out HB.out) | (with_reducible refine Kd.C_alloc ?_ _) | (with_reducible refine Kd.C_drewN ?_ _) | (with_reducible refine Kd.C_drew ?_))); (case side4 => exact HC0_2.out); rintro e w10 ⟨rfl, hb⟩; refine ⟨_, rfl, ?_⟩; have n0_ := Aside0.mk (blk_below (g := gb218) (o := .cells #[.int .i64 a0_0, .slice A0_1 l0_1.length c0_1, .slice A0_2 l0_2.length c0_2] 27 (0, 0)) (by (with_reducible repeat (first | refine blk_drewN ?_ _ | refine blk_drew ?_ | refine blk_alloc ?_ _)); exact BK218.out) hb); have n1_ := Aside0.mk (below_step (by repeat (first | (with_reducible first | exact HB.out | apply below_alloc | apply pw_below_drewN | apply below_drew1 | refine below_set ?_ GE218.out) | exact HB.out)) hb); clear BK218; clear HB; have BK218 := n0_; have HB := n1_; clear n0_ n1_; (try clear hb); (try clear hb2); (try clear hk); (try clear hi)))
  go_ret
  exact ⟨by first | rfl | (simp [errW_none, errW_some] <;> rfl) | (simp [*, errW_none, errW_some] <;> rfl), by repeat (first | (with_reducible first | exact HB.out | apply below_alloc | apply pw_below_drewN | apply below_drew1 | refine below_set ?_ GE218.out) | exact HB.out)⟩

/-! ### laws_FnExactNewDisk: function 3 -/
-- PROOF --
-- NEEDS Derived.Test.YtfpjheljpmincaaLb
-- NEEDS Derived.Test.YtfpjheljpmincaaLv
-- NEEDS Derived.IntWalk
-- NEEDS Derived.Shelf.Abstract
-- NEEDS Derived.Test.YtfpjheljpmincaaZz
theorem C_empty {α : Type} (d : Kd α) (w : World) (A : Option Addr) : Kd.C d w A ([] : List α).length [] := ⟨rfl, by simp, fun h => absurd h (Nat.lt_irrefl 0)⟩
theorem keepB {w w' : World} {n : Nat} {o : Obj} (hb : Below w.heap.size w w') (h : w.heap[n]? = some o) : w'.heap[n]? = some o := (hb.block n (blk_lt h)).trans h
set_option maxHeartbeats 16000000 in
set_option maxRecDepth 100000 in
theorem laws_FnExactNewDisk.calls (k : Nat) (a0 : Int) (w : World) (h : laws_FnExactNewDisk.f k a0 = some true) :
  Calls Try.prog 3 #[.int .i64 a0] w fun e w' => e = .returned (.bool true) ∧ Below w.heap.size w w' := by
 have hu25 := Try.underlying25
 have hu27 := Try.underlying27
 have HB := Aside0.mk (Below.refl w.heap.size w)
 unfold laws_FnExactNewDisk.f at h
 obtain ⟨⟨s1, s2, s3⟩, hs, h⟩ := Option.bind_eq_some_iff.mp h
 have HS := Aside0.mk hs
 obtain ⟨⟨g1, g2, g3⟩, hg, h⟩ := Option.bind_eq_some_iff.mp h
 have HG := Aside0.mk hg
 obtain ⟨q1, hq1, h⟩ := Option.bind_eq_some_iff.mp h
 cases q1 with
 | false => exact absurd h (by simp)
 | true =>
 rw [if_pos rfl] at h
 have HQ1 := Aside0.mk hq1
 obtain ⟨⟨nn1, nn2, nn3⟩, hn, h⟩ := Option.bind_eq_some_iff.mp h
 unfold laws_markDiskResult.f at hn
 by_cases h3 : g3 = []
 case neg => rw [if_neg h3] at hn; cases hn
 rw [if_pos h3] at hn
 obtain ⟨⟨n1, n2⟩, hm, hn⟩ := Option.bind_eq_some_iff.mp hn
 cases hn
 simp only at h hq1 hg hm
 subst h3
 have HN := Aside0.mk hm
 have HQ1 := Aside0.mk hq1
 have HG := Aside0.mk hg
 obtain ⟨q3, hq3, h⟩ := Option.bind_eq_some_iff.mp h
 have HQ3 := Aside0.mk hq3
 by_cases cq : q3 < 0
 ·exact absurd h (by rw [if_pos cq]; decide)
 rw [if_neg cq] at h
 have cn : q3 = n1 := Decidable.byContradiction fun c => by rw [if_neg c] at h; simp at h
 subst cn
 clear h hs hg hq1 hm hq3
 have h : True := trivial
 have cq0 : decide (q3 < 0) = false := decide_eq_false cq
 go_enter Try.func3, Try.ntmps3
 go_wp2_with fail
 refine (spec_NewDisk.calls k a0 s1 s2 s3 _ HS.out).mono ?_
 rintro e u1 ⟨v2, v3, rfl, h2, h3, hb⟩
 have hsz := hb.size
 replace HB := Aside0.mk (show Below w.heap.size w u1 from below_step HB.out hb)
 have z1 := Aside0.mk hsz
 clear hsz
 obtain ⟨Aw2, cw2, e1⟩ := Kd.S_slice h2
 subst e1
 have Sw2 := Aside0.mk (show Kd.S (Kd.slice 5 (Kd.int .u8)) 33 u1 w.heap.size (fun k_ => w.heap.size ≤ k_ ∧ k_ < u1.heap.size) (.slice Aw2 s2.length cw2) s2 from Kd.S_mono (Kd.S_bound h2) (fun k_ h_ => ⟨h_.2.1, h_.2.2.1⟩))
 clear h2
 obtain ⟨Aw3, cw3, e1⟩ := Kd.S_slice h3
 subst e1
 have Sw3 := Aside0.mk (show Kd.S k54 54 u1 w.heap.size (fun k_ => w.heap.size ≤ k_ ∧ k_ < u1.heap.size) (.slice Aw3 s3.length cw3) s3 from Kd.S_mono (Kd.S_bound h3) (fun k_ h_ => ⟨h_.2.1, h_.2.2.1⟩))
 clear h3
 go_wp2_with fail
 have hb : Below u1.heap.size u1 (u1.alloc (Obj.cells #[.int .i64 s1, .slice Aw2 s2.length cw2, .slice Aw3 s3.length cw3] 27)) := below_alloc (Below.refl _ _) _
 have hbx := blk_new u1 (Obj.cells #[.int .i64 s1, .slice Aw2 s2.length cw2, .slice Aw3 s3.length cw3] 27)
 have hsz : u1.heap.size + 1 = (u1.alloc (Obj.cells #[.int .i64 s1, .slice Aw2 s2.length cw2, .slice Aw3 s3.length cw3] 27)).heap.size := by simp
 replace HB := Aside0.mk (below_alloc HB.out (Obj.cells #[.int .i64 s1, .slice Aw2 s2.length cw2, .slice Aw3 s3.length cw3] 27))
 replace Sw2 := Aside0.mk (Kd.S_below Sw2.out hb)
 replace Sw3 := Aside0.mk (Kd.S_below Sw3.out hb)
 have hbz := Aside0.mk hb
 have hbxz := Aside0.mk hbx
 have hszz := Aside0.mk hsz
 clear hb hbx hsz
 generalize u1.alloc (Obj.cells #[.int .i64 s1, .slice Aw2 s2.length cw2, .slice Aw3 s3.length cw3] 27) = u2 at HB hbz hbxz hszz Sw2 Sw3 ⊢
 have X2 := hbxz
 have z2 := hszz
 clear hbz hbxz hszz
 refine (impl_NewDisk.calls k a0 g1 g2 [] _ HG.out).mono ?_
 rintro e u3 ⟨v2, v3, rfl, h2, h3, hb⟩
 have hsz := hb.size
 replace HB := Aside0.mk (show Below w.heap.size w u3 from below_step HB.out hb)
 replace Sw2 := Aside0.mk (Kd.S_below Sw2.out hb)
 replace Sw3 := Aside0.mk (Kd.S_below Sw3.out hb)
 replace X2 := Aside0.mk (keepB hb X2.out)
 have z3 := Aside0.mk hsz
 clear hsz
 obtain ⟨Ag2, cg2, e1⟩ := Kd.S_slice h2
 subst e1
 have Sg2 := Aside0.mk (show Kd.S (Kd.slice 5 (Kd.int .u8)) 33 u3 u2.heap.size (fun k_ => u2.heap.size ≤ k_ ∧ k_ < u3.heap.size) (.slice Ag2 g2.length cg2) g2 from Kd.S_mono (Kd.S_bound h2) (fun k_ h_ => ⟨h_.2.1, h_.2.2.1⟩))
 clear h2
 obtain ⟨Ag3, cg3, e1⟩ := Kd.S_slice h3
 subst e1
 have Sg3 := Aside0.mk (show Kd.S k54 54 u3 u2.heap.size (fun k_ => u2.heap.size ≤ k_ ∧ k_ < u3.heap.size) (.slice Ag3 ([] : List S54).length cg3) ([] : List S54) from Kd.S_mono (Kd.S_bound h3) (fun k_ h_ => ⟨h_.2.1, h_.2.2.1⟩))
 clear h3
 have cX2_0 : u3.cell? ⟨u1.heap.size, 0, none⟩ = some (.int .i64 s1) := (blk_cell X2.out 0).trans rfl
 have cX2_1 : u3.cell? ⟨u1.heap.size, 1, none⟩ = some (.slice Aw2 s2.length cw2) := (blk_cell X2.out 1).trans rfl
 have cX2_2 : u3.cell? ⟨u1.heap.size, 2, none⟩ = some (.slice Aw3 s3.length cw3) := (blk_cell X2.out 2).trans rfl
 have lX2 : u1.heap.size < u3.heap.size := blk_lt X2.out
 have nX2 : u1.heap.size ≠ u3.heap.size := Nat.ne_of_lt (blk_lt X2.out)
 go_wp2_with fail
 clear cX2_0 cX2_1 cX2_2 lX2 nX2
 have hb : Below u3.heap.size u3 (u3.alloc (Obj.cells #[.int .i64 g1, .slice Ag2 g2.length cg2, .slice Ag3 0 cg3] 27)) := below_alloc (Below.refl _ _) _
 have hbx := blk_new u3 (Obj.cells #[.int .i64 g1, .slice Ag2 g2.length cg2, .slice Ag3 0 cg3] 27)
 have hsz : u3.heap.size + 1 = (u3.alloc (Obj.cells #[.int .i64 g1, .slice Ag2 g2.length cg2, .slice Ag3 0 cg3] 27)).heap.size := by simp
 replace HB := Aside0.mk (below_alloc HB.out (Obj.cells #[.int .i64 g1, .slice Ag2 g2.length cg2, .slice Ag3 0 cg3] 27))
 replace Sw2 := Aside0.mk (Kd.S_below Sw2.out hb)
 replace Sw3 := Aside0.mk (Kd.S_below Sw3.out hb)
 replace X2 := Aside0.mk (keepB hb X2.out)
 replace Sg2 := Aside0.mk (Kd.S_below Sg2.out hb)
 replace Sg3 := Aside0.mk (Kd.S_below Sg3.out hb)
 have hbz := Aside0.mk hb
 have hbxz := Aside0.mk hbx
 have hszz := Aside0.mk hsz
 clear hb hbx hsz
 generalize u3.alloc (Obj.cells #[.int .i64 g1, .slice Ag2 g2.length cg2, .slice Ag3 0 cg3] 27) = u4 at HB hbz hbxz hszz Sw2 Sw3 X2 Sg2 Sg3 ⊢
 have X4 := hbxz
 have z4 := hszz
 clear hbz hbxz hszz
 have cX2_0 : u4.cell? ⟨u1.heap.size, 0, none⟩ = some (.int .i64 s1) := (blk_cell X2.out 0).trans rfl
 have cX2_1 : u4.cell? ⟨u1.heap.size, 1, none⟩ = some (.slice Aw2 s2.length cw2) := (blk_cell X2.out 1).trans rfl
 have cX2_2 : u4.cell? ⟨u1.heap.size, 2, none⟩ = some (.slice Aw3 s3.length cw3) := (blk_cell X2.out 2).trans rfl
 have lX2 : u1.heap.size < u4.heap.size := blk_lt X2.out
 have nX2 : u1.heap.size ≠ u4.heap.size := Nat.ne_of_lt (blk_lt X2.out)
 have cX4_0 : u4.cell? ⟨u3.heap.size, 0, none⟩ = some (.int .i64 g1) := (blk_cell X4.out 0).trans rfl
 have cX4_1 : u4.cell? ⟨u3.heap.size, 1, none⟩ = some (.slice Ag2 g2.length cg2) := (blk_cell X4.out 1).trans rfl
 have cX4_2 : u4.cell? ⟨u3.heap.size, 2, none⟩ = some (.slice Ag3 0 cg3) := (blk_cell X4.out 2).trans rfl
 have lX4 : u3.heap.size < u4.heap.size := blk_lt X4.out
 have nX4 : u3.heap.size ≠ u4.heap.size := Nat.ne_of_lt (blk_lt X4.out)
 go_wp2_with fail
 clear cX2_0 cX2_1 cX2_2 lX2 nX2 cX4_0 cX4_1 cX4_2 lX4 nX4
 refine (laws_eqDiskResult.calls k g1 _ cg2 g2 _ cg3 [] s1 _ cw2 s2 _ cw3 s3 true _ (Kd.S_reads' Sg2.out).2.2 (Kd.S_reads' Sg2.out).2.1 (C_empty _ _ _) (Nat.zero_le _) (Kd.S_reads' Sw2.out).2.2 (Kd.S_reads' Sw2.out).2.1 (Kd.S_reads' Sw3.out).2.2 (Kd.S_reads' Sw3.out).2.1 HQ1.out).mono ?_
 rintro e u5 ⟨rfl, hb⟩
 have hsz := hb.size
 replace HB := Aside0.mk (show Below w.heap.size w u5 from below_step HB.out hb)
 replace Sw2 := Aside0.mk (Kd.S_below Sw2.out hb)
 replace Sw3 := Aside0.mk (Kd.S_below Sw3.out hb)
 replace X2 := Aside0.mk (keepB hb X2.out)
 replace Sg2 := Aside0.mk (Kd.S_below Sg2.out hb)
 replace Sg3 := Aside0.mk (Kd.S_below Sg3.out hb)
 replace X4 := Aside0.mk (keepB hb X4.out)
 have z5 := Aside0.mk hsz
 clear hsz
 have cX4_0 : u5.cell? ⟨u3.heap.size, 0, none⟩ = some (.int .i64 g1) := (blk_cell X4.out 0).trans rfl
 have cX4_1 : u5.cell? ⟨u3.heap.size, 1, none⟩ = some (.slice Ag2 g2.length cg2) := (blk_cell X4.out 1).trans rfl
 have cX4_2 : u5.cell? ⟨u3.heap.size, 2, none⟩ = some (.slice Ag3 0 cg3) := (blk_cell X4.out 2).trans rfl
 have lX4 : u3.heap.size < u5.heap.size := blk_lt X4.out
 have nX4 : u3.heap.size ≠ u5.heap.size := Nat.ne_of_lt (blk_lt X4.out)
 have cX2_0 : u5.cell? ⟨u1.heap.size, 0, none⟩ = some (.int .i64 s1) := (blk_cell X2.out 0).trans rfl
 have cX2_1 : u5.cell? ⟨u1.heap.size, 1, none⟩ = some (.slice Aw2 s2.length cw2) := (blk_cell X2.out 1).trans rfl
 have cX2_2 : u5.cell? ⟨u1.heap.size, 2, none⟩ = some (.slice Aw3 s3.length cw3) := (blk_cell X2.out 2).trans rfl
 have lX2 : u1.heap.size < u5.heap.size := blk_lt X2.out
 have nX2 : u1.heap.size ≠ u5.heap.size := Nat.ne_of_lt (blk_lt X2.out)
 go_wp2_with fail
 clear cX4_0 cX4_1 cX4_2 lX4 nX4 cX2_0 cX2_1 cX2_2 lX2 nX2
 have hlo : w.heap.size ≤ u2.heap.size := by have hx_ := blk_lt X2.out; have qz1_ := z1.out; have qz2_ := z2.out; have qz3_ := z3.out; have qz4_ := z4.out; have qz5_ := z5.out; omega
 refine (laws_markDiskResult.at k g1 (fun k_ => u2.heap.size ≤ k_ ∧ k_ < u3.heap.size) _ cg2 g2 _ cg3 1 q3 n2 w _ HB.out (Kd.S_lower Sg2.out hlo) HN.out).mono ?_
 rintro e u6 ⟨rfl, hs2, hB, hk⟩
 clear Sg2
 replace HB := Aside0.mk hB
 have hsz := Aside0.mk hk.1
 clear Sg3
 replace Sw2 := Aside0.mk (Kd.S_step Sw2.out (fun k_ ho_ hlt_ => hk.2 k_ hlt_ (fun hp => by have h1 := hp; have h2 := ho_; have qz1_ := z1.out; have qz2_ := z2.out; have qz3_ := z3.out; have qz4_ := z4.out; have qz5_ := z5.out; omega)))
 replace Sw3 := Aside0.mk (Kd.S_step Sw3.out (fun k_ ho_ hlt_ => hk.2 k_ hlt_ (fun hp => by have h1 := hp; have h2 := ho_; have qz1_ := z1.out; have qz2_ := z2.out; have qz3_ := z3.out; have qz4_ := z4.out; have qz5_ := z5.out; omega)))
 replace X2 := Aside0.mk ((hk.2 _ (blk_lt X2.out) (fun hp => by have h1 := hp; have qz1_ := z1.out; have qz2_ := z2.out; have qz3_ := z3.out; have qz4_ := z4.out; have qz5_ := z5.out; omega)).trans X2.out)
 replace X4 := Aside0.mk ((hk.2 _ (blk_lt X4.out) (fun hp => by have h1 := hp; have qz1_ := z1.out; have qz2_ := z2.out; have qz3_ := z3.out; have qz4_ := z4.out; have qz5_ := z5.out; omega)).trans X4.out)
 have z6 := hsz
 clear hsz hB hk hlo
 obtain ⟨gl_, -, -⟩ := Kd.S_reads' hs2
 rw [gl_] at hs2
 have Sg2 := Aside0.mk hs2
 have GL := Aside0.mk gl_
 clear hs2 gl_
 have cX4_0 : u6.cell? ⟨u3.heap.size, 0, none⟩ = some (.int .i64 g1) := (blk_cell X4.out 0).trans rfl
 have cX4_1 : u6.cell? ⟨u3.heap.size, 1, none⟩ = some (.slice Ag2 g2.length cg2) := (blk_cell X4.out 1).trans rfl
 have cX4_2 : u6.cell? ⟨u3.heap.size, 2, none⟩ = some (.slice Ag3 0 cg3) := (blk_cell X4.out 2).trans rfl
 have lX4 : u3.heap.size < u6.heap.size := blk_lt X4.out
 have nX4 : u3.heap.size ≠ u6.heap.size := Nat.ne_of_lt (blk_lt X4.out)
 have cX2_0 : u6.cell? ⟨u1.heap.size, 0, none⟩ = some (.int .i64 s1) := (blk_cell X2.out 0).trans rfl
 have cX2_1 : u6.cell? ⟨u1.heap.size, 1, none⟩ = some (.slice Aw2 s2.length cw2) := (blk_cell X2.out 1).trans rfl
 have cX2_2 : u6.cell? ⟨u1.heap.size, 2, none⟩ = some (.slice Aw3 s3.length cw3) := (blk_cell X2.out 2).trans rfl
 have lX2 : u1.heap.size < u6.heap.size := blk_lt X2.out
 have nX2 : u1.heap.size ≠ u6.heap.size := Nat.ne_of_lt (blk_lt X2.out)
 go_wp2_with fail
 clear cX4_0 cX4_1 cX4_2 lX4 nX4 cX2_0 cX2_1 cX2_2 lX2 nX2
 rw [GL.out]
 refine (laws_heldDiskResult.calls k g1 _ cg2 n2 _ cg3 [] 1 q3 _ (Kd.S_reads' Sg2.out).2.2 (Kd.S_reads' Sg2.out).2.1 (C_empty _ _ _) (Nat.zero_le _) HQ3.out).mono ?_
 rintro e u7 ⟨rfl, hb⟩
 have hsz := hb.size
 replace HB := Aside0.mk (show Below w.heap.size w u7 from below_step HB.out hb)
 replace Sw2 := Aside0.mk (Kd.S_below Sw2.out hb)
 replace Sw3 := Aside0.mk (Kd.S_below Sw3.out hb)
 replace X2 := Aside0.mk (keepB hb X2.out)
 replace X4 := Aside0.mk (keepB hb X4.out)
 replace Sg2 := Aside0.mk (Kd.S_below Sg2.out hb)
 have z7 := Aside0.mk hsz
 clear hsz
 have cX4_0 : u7.cell? ⟨u3.heap.size, 0, none⟩ = some (.int .i64 g1) := (blk_cell X4.out 0).trans rfl
 have cX4_1 : u7.cell? ⟨u3.heap.size, 1, none⟩ = some (.slice Ag2 g2.length cg2) := (blk_cell X4.out 1).trans rfl
 have cX4_2 : u7.cell? ⟨u3.heap.size, 2, none⟩ = some (.slice Ag3 0 cg3) := (blk_cell X4.out 2).trans rfl
 have lX4 : u3.heap.size < u7.heap.size := blk_lt X4.out
 have nX4 : u3.heap.size ≠ u7.heap.size := Nat.ne_of_lt (blk_lt X4.out)
 have cX2_0 : u7.cell? ⟨u1.heap.size, 0, none⟩ = some (.int .i64 s1) := (blk_cell X2.out 0).trans rfl
 have cX2_1 : u7.cell? ⟨u1.heap.size, 1, none⟩ = some (.slice Aw2 s2.length cw2) := (blk_cell X2.out 1).trans rfl
 have cX2_2 : u7.cell? ⟨u1.heap.size, 2, none⟩ = some (.slice Aw3 s3.length cw3) := (blk_cell X2.out 2).trans rfl
 have lX2 : u1.heap.size < u7.heap.size := blk_lt X2.out
 have nX2 : u1.heap.size ≠ u7.heap.size := Nat.ne_of_lt (blk_lt X2.out)
 go_wp2_with fail
 clear cX4_0 cX4_1 cX4_2 lX4 nX4 cX2_0 cX2_1 cX2_2 lX2 nX2
 refine (impl_NewDisk.calls k a0 g1 g2 [] _ HG.out).mono ?_
 rintro e u8 ⟨v2, v3, rfl, h2, h3, hb⟩
 have hsz := hb.size
 replace HB := Aside0.mk (show Below w.heap.size w u8 from below_step HB.out hb)
 replace Sw2 := Aside0.mk (Kd.S_below Sw2.out hb)
 replace Sw3 := Aside0.mk (Kd.S_below Sw3.out hb)
 replace X2 := Aside0.mk (keepB hb X2.out)
 replace X4 := Aside0.mk (keepB hb X4.out)
 replace Sg2 := Aside0.mk (Kd.S_below Sg2.out hb)
 have z8 := Aside0.mk hsz
 clear hsz
 obtain ⟨Ah2, ch2, e1⟩ := Kd.S_slice h2
 subst e1
 have Sh2 := Aside0.mk (show Kd.S (Kd.slice 5 (Kd.int .u8)) 33 u8 u7.heap.size (fun k_ => u7.heap.size ≤ k_ ∧ k_ < u8.heap.size) (.slice Ah2 g2.length ch2) g2 from Kd.S_mono (Kd.S_bound h2) (fun k_ h_ => ⟨h_.2.1, h_.2.2.1⟩))
 clear h2
 obtain ⟨Ah3, ch3, e1⟩ := Kd.S_slice h3
 subst e1
 have Sh3 := Aside0.mk (show Kd.S k54 54 u8 u7.heap.size (fun k_ => u7.heap.size ≤ k_ ∧ k_ < u8.heap.size) (.slice Ah3 ([] : List S54).length ch3) ([] : List S54) from Kd.S_mono (Kd.S_bound h3) (fun k_ h_ => ⟨h_.2.1, h_.2.2.1⟩))
 clear h3
 have cX2_0 : u8.cell? ⟨u1.heap.size, 0, none⟩ = some (.int .i64 s1) := (blk_cell X2.out 0).trans rfl
 have cX2_1 : u8.cell? ⟨u1.heap.size, 1, none⟩ = some (.slice Aw2 s2.length cw2) := (blk_cell X2.out 1).trans rfl
 have cX2_2 : u8.cell? ⟨u1.heap.size, 2, none⟩ = some (.slice Aw3 s3.length cw3) := (blk_cell X2.out 2).trans rfl
 have lX2 : u1.heap.size < u8.heap.size := blk_lt X2.out
 have nX2 : u1.heap.size ≠ u8.heap.size := Nat.ne_of_lt (blk_lt X2.out)
 have cX4_0 : u8.cell? ⟨u3.heap.size, 0, none⟩ = some (.int .i64 g1) := (blk_cell X4.out 0).trans rfl
 have cX4_1 : u8.cell? ⟨u3.heap.size, 1, none⟩ = some (.slice Ag2 g2.length cg2) := (blk_cell X4.out 1).trans rfl
 have cX4_2 : u8.cell? ⟨u3.heap.size, 2, none⟩ = some (.slice Ag3 0 cg3) := (blk_cell X4.out 2).trans rfl
 have lX4 : u3.heap.size < u8.heap.size := blk_lt X4.out
 have nX4 : u3.heap.size ≠ u8.heap.size := Nat.ne_of_lt (blk_lt X4.out)
 go_wp2_with fail
 clear cX2_0 cX2_1 cX2_2 lX2 nX2 cX4_0 cX4_1 cX4_2 lX4 nX4
 have hb : Below u8.heap.size u8 (u8.alloc (Obj.cells #[.int .i64 g1, .slice Ah2 g2.length ch2, .slice Ah3 0 ch3] 27)) := below_alloc (Below.refl _ _) _
 have hbx := blk_new u8 (Obj.cells #[.int .i64 g1, .slice Ah2 g2.length ch2, .slice Ah3 0 ch3] 27)
 have hsz : u8.heap.size + 1 = (u8.alloc (Obj.cells #[.int .i64 g1, .slice Ah2 g2.length ch2, .slice Ah3 0 ch3] 27)).heap.size := by simp
 replace HB := Aside0.mk (below_alloc HB.out (Obj.cells #[.int .i64 g1, .slice Ah2 g2.length ch2, .slice Ah3 0 ch3] 27))
 replace Sw2 := Aside0.mk (Kd.S_below Sw2.out hb)
 replace Sw3 := Aside0.mk (Kd.S_below Sw3.out hb)
 replace X2 := Aside0.mk (keepB hb X2.out)
 replace X4 := Aside0.mk (keepB hb X4.out)
 replace Sg2 := Aside0.mk (Kd.S_below Sg2.out hb)
 replace Sh2 := Aside0.mk (Kd.S_below Sh2.out hb)
 replace Sh3 := Aside0.mk (Kd.S_below Sh3.out hb)
 have hbz := Aside0.mk hb
 have hbxz := Aside0.mk hbx
 have hszz := Aside0.mk hsz
 clear hb hbx hsz
 generalize u8.alloc (Obj.cells #[.int .i64 g1, .slice Ah2 g2.length ch2, .slice Ah3 0 ch3] 27) = u9 at HB hbz hbxz hszz Sw2 Sw3 X2 X4 Sg2 Sh2 Sh3 ⊢
 have X9 := hbxz
 have z9 := hszz
 clear hbz hbxz hszz
 have cX2_0 : u9.cell? ⟨u1.heap.size, 0, none⟩ = some (.int .i64 s1) := (blk_cell X2.out 0).trans rfl
 have cX2_1 : u9.cell? ⟨u1.heap.size, 1, none⟩ = some (.slice Aw2 s2.length cw2) := (blk_cell X2.out 1).trans rfl
 have cX2_2 : u9.cell? ⟨u1.heap.size, 2, none⟩ = some (.slice Aw3 s3.length cw3) := (blk_cell X2.out 2).trans rfl
 have lX2 : u1.heap.size < u9.heap.size := blk_lt X2.out
 have nX2 : u1.heap.size ≠ u9.heap.size := Nat.ne_of_lt (blk_lt X2.out)
 have cX4_0 : u9.cell? ⟨u3.heap.size, 0, none⟩ = some (.int .i64 g1) := (blk_cell X4.out 0).trans rfl
 have cX4_1 : u9.cell? ⟨u3.heap.size, 1, none⟩ = some (.slice Ag2 g2.length cg2) := (blk_cell X4.out 1).trans rfl
 have cX4_2 : u9.cell? ⟨u3.heap.size, 2, none⟩ = some (.slice Ag3 0 cg3) := (blk_cell X4.out 2).trans rfl
 have lX4 : u3.heap.size < u9.heap.size := blk_lt X4.out
 have nX4 : u3.heap.size ≠ u9.heap.size := Nat.ne_of_lt (blk_lt X4.out)
 have cX9_0 : u9.cell? ⟨u8.heap.size, 0, none⟩ = some (.int .i64 g1) := (blk_cell X9.out 0).trans rfl
 have cX9_1 : u9.cell? ⟨u8.heap.size, 1, none⟩ = some (.slice Ah2 g2.length ch2) := (blk_cell X9.out 1).trans rfl
 have cX9_2 : u9.cell? ⟨u8.heap.size, 2, none⟩ = some (.slice Ah3 0 ch3) := (blk_cell X9.out 2).trans rfl
 have lX9 : u8.heap.size < u9.heap.size := blk_lt X9.out
 have nX9 : u8.heap.size ≠ u9.heap.size := Nat.ne_of_lt (blk_lt X9.out)
 go_wp2_with fail
 clear cX2_0 cX2_1 cX2_2 lX2 nX2 cX4_0 cX4_1 cX4_2 lX4 nX4 cX9_0 cX9_1 cX9_2 lX9 nX9
 refine (laws_eqDiskResult.calls k g1 _ ch2 g2 _ ch3 [] s1 _ cw2 s2 _ cw3 s3 true _ (Kd.S_reads' Sh2.out).2.2 (Kd.S_reads' Sh2.out).2.1 (C_empty _ _ _) (Nat.zero_le _) (Kd.S_reads' Sw2.out).2.2 (Kd.S_reads' Sw2.out).2.1 (Kd.S_reads' Sw3.out).2.2 (Kd.S_reads' Sw3.out).2.1 HQ1.out).mono ?_
 rintro e u10 ⟨rfl, hb⟩
 have hsz := hb.size
 replace HB := Aside0.mk (show Below w.heap.size w u10 from below_step HB.out hb)
 replace Sw2 := Aside0.mk (Kd.S_below Sw2.out hb)
 replace Sw3 := Aside0.mk (Kd.S_below Sw3.out hb)
 replace X2 := Aside0.mk (keepB hb X2.out)
 replace X4 := Aside0.mk (keepB hb X4.out)
 replace Sg2 := Aside0.mk (Kd.S_below Sg2.out hb)
 replace Sh2 := Aside0.mk (Kd.S_below Sh2.out hb)
 replace Sh3 := Aside0.mk (Kd.S_below Sh3.out hb)
 replace X9 := Aside0.mk (keepB hb X9.out)
 have z10 := Aside0.mk hsz
 clear hsz
 have cX4_0 : u10.cell? ⟨u3.heap.size, 0, none⟩ = some (.int .i64 g1) := (blk_cell X4.out 0).trans rfl
 have cX4_1 : u10.cell? ⟨u3.heap.size, 1, none⟩ = some (.slice Ag2 g2.length cg2) := (blk_cell X4.out 1).trans rfl
 have cX4_2 : u10.cell? ⟨u3.heap.size, 2, none⟩ = some (.slice Ag3 0 cg3) := (blk_cell X4.out 2).trans rfl
 have lX4 : u3.heap.size < u10.heap.size := blk_lt X4.out
 have nX4 : u3.heap.size ≠ u10.heap.size := Nat.ne_of_lt (blk_lt X4.out)
 have cX2_0 : u10.cell? ⟨u1.heap.size, 0, none⟩ = some (.int .i64 s1) := (blk_cell X2.out 0).trans rfl
 have cX2_1 : u10.cell? ⟨u1.heap.size, 1, none⟩ = some (.slice Aw2 s2.length cw2) := (blk_cell X2.out 1).trans rfl
 have cX2_2 : u10.cell? ⟨u1.heap.size, 2, none⟩ = some (.slice Aw3 s3.length cw3) := (blk_cell X2.out 2).trans rfl
 have lX2 : u1.heap.size < u10.heap.size := blk_lt X2.out
 have nX2 : u1.heap.size ≠ u10.heap.size := Nat.ne_of_lt (blk_lt X2.out)
 go_wp2_with fail
 clear cX4_0 cX4_1 cX4_2 lX4 nX4 cX2_0 cX2_1 cX2_2 lX2 nX2
 rw [GL.out]
 refine (laws_heldDiskResult.calls k g1 _ cg2 n2 _ cg3 [] 1 q3 _ (Kd.S_reads' Sg2.out).2.2 (Kd.S_reads' Sg2.out).2.1 (C_empty _ _ _) (Nat.zero_le _) HQ3.out).mono ?_
 rintro e u11 ⟨rfl, hb⟩
 have hsz := hb.size
 replace HB := Aside0.mk (show Below w.heap.size w u11 from below_step HB.out hb)
 replace Sw2 := Aside0.mk (Kd.S_below Sw2.out hb)
 replace Sw3 := Aside0.mk (Kd.S_below Sw3.out hb)
 replace X2 := Aside0.mk (keepB hb X2.out)
 replace X4 := Aside0.mk (keepB hb X4.out)
 replace Sg2 := Aside0.mk (Kd.S_below Sg2.out hb)
 replace Sh2 := Aside0.mk (Kd.S_below Sh2.out hb)
 replace Sh3 := Aside0.mk (Kd.S_below Sh3.out hb)
 replace X9 := Aside0.mk (keepB hb X9.out)
 have z11 := Aside0.mk hsz
 clear hsz
 go_wp2_with fail
 go_ret
 exact ⟨rfl, HB.out⟩


end Go.Proofs.Ytfpjheljpmincaa.P
