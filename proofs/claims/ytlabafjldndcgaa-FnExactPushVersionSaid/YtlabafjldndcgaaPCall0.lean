-- Printed by this session's own program over the kit's print (wip/tools/mp.py). Not trusted: Lean checks it.
import Derived.Test.YtlabafjldndcgaaP0
import Derived.Test.YtlabafjldndcgaaPD0
import Derived.Test.YtlabafjldndcgaaWRepsOne
namespace Go.Proofs.Ytlabafjldndcgaa.P
open Go.RowKit Go.Proofs.YtlabafjldndcgaaW.PrintWords Go.Proofs.YtlabafjldndcgaaW.PrintLast Go.Proofs.YtlabafjldndcgaaW.PrintMore
attribute [local go_sem] max2_int min2_int max_two min_two max_three min_three max_four min_four   -- for this text's walks alone
set_option linter.unusedVariables false
set_option linter.unusedSimpArgs false

/-! ### spec_l1In: function 56 -/
set_option maxHeartbeats 8000000 in
set_option maxRecDepth 100000 in
theorem spec_l1In.calls (a0 : Int) (a1 : Int) (a2 : Int) (r : Bool) (w : World) (h : spec_l1In.f a0 a1 a2 = some r) :
  Calls Try.prog 56 #[.int .i64 a0, .int .i64 a1, .int .i64 a2] w fun e w' => e = .returned (.bool r) ∧ Drawn0 w w' := by
 have H : (if a0 ≥ a1 then (some (decide (a0 ≤ a2))) else (some false)) = some r := h
 clear h
 by_cases c4 : a0 ≥ a1
 ·rw [if_pos c4] at H
  have c4b0 : decide (a1 ≤ a0) = true := decide_eq_true c4
  clear c4
  obtain rfl := Option.some.inj H
  go_enter Try.func56, Try.ntmps56
  go_wp2
  go_ret
  exact ⟨by first | rfl | (simp; done) | (simp [*]; done), by repeat (first | exact Drawn0.refl _ | apply Drawn0.step)⟩
 ·rw [if_neg c4] at H
  have c4b0 : decide (a1 ≤ a0) = false := decide_eq_false c4
  clear c4
  obtain rfl := Option.some.inj H
  go_enter Try.func56, Try.ntmps56
  go_wp2
  go_ret
  exact ⟨by first | rfl | (simp; done) | (simp [*]; done), by repeat (first | exact Drawn0.refl _ | apply Drawn0.step)⟩

/-! ### spec_l5Txn: function 41 -/
set_option maxHeartbeats 8000000 in
set_option maxRecDepth 100000 in
theorem spec_l5Txn.calls (a0 : Int) (r : Bool) (w : World) (h : spec_l5Txn.f a0 = some r) :
  Calls Try.prog 41 #[.int .i64 a0] w fun e w' => e = .returned (.bool r) ∧ Drawn0 w w' := by
 have H : ((spec_l1In.f a0 1 999).bind fun t101 => (some t101)) = some r := h
 clear h
 replace H := Option.bind_eq_some_iff.mp H
 obtain ⟨t101, A20, H⟩ := H
 replace H : (some t101) = some r := H
 have A2 := Aside0.mk A20
 clear A20
 obtain rfl := Option.some.inj H
 go_enter Try.func41, Try.ntmps41
 go_wp2_with (first | ((with_reducible refine gate_callee (f := 56) rfl ?_); refine goesL_ (some 4) rfl rfl Try.func56 (by kernel_rfl) rfl #[.int .i64 a0, .int .i64 1, .int .i64 999] rfl (by (try simp only [List.map_toArray, List.map_cons, List.map_nil]); first | done | rfl | (simp only [List.length_drop, List.length_take]; rfl)) ?_; (with_reducible refine (spec_l1In.calls a0 1 999 t101 _ A2.out).mono ?_); rintro e w' ⟨rfl, ⟨nd, rfl⟩⟩; refine ⟨_, rfl, ?_⟩))
 go_ret
 exact ⟨by first | rfl | (simp; done) | (simp [*]; done), by repeat (first | exact Drawn0.refl _ | apply Drawn0.step)⟩

/-! ### spec_l5At: function 42 -/
set_option maxHeartbeats 8000000 in
set_option maxRecDepth 100000 in
theorem spec_l5At.calls (a0 : Int) (r : Bool) (w : World) (h : spec_l5At.f a0 = some r) :
  Calls Try.prog 42 #[.int .i64 a0] w fun e w' => e = .returned (.bool r) ∧ Drawn0 w w' := by
 have H : ((spec_l1In.f a0 1 1000000).bind fun t102 => (some t102)) = some r := h
 clear h
 replace H := Option.bind_eq_some_iff.mp H
 obtain ⟨t102, A20, H⟩ := H
 replace H : (some t102) = some r := H
 have A2 := Aside0.mk A20
 clear A20
 obtain rfl := Option.some.inj H
 go_enter Try.func42, Try.ntmps42
 go_wp2_with (first | ((with_reducible refine gate_callee (f := 56) rfl ?_); refine goesL_ (some 4) rfl rfl Try.func56 (by kernel_rfl) rfl #[.int .i64 a0, .int .i64 1, .int .i64 1000000] rfl (by (try simp only [List.map_toArray, List.map_cons, List.map_nil]); first | done | rfl | (simp only [List.length_drop, List.length_take]; rfl)) ?_; (with_reducible refine (spec_l1In.calls a0 1 1000000 t102 _ A2.out).mono ?_); rintro e w' ⟨rfl, ⟨nd, rfl⟩⟩; refine ⟨_, rfl, ?_⟩))
 go_ret
 exact ⟨by first | rfl | (simp; done) | (simp [*]; done), by repeat (first | exact Drawn0.refl _ | apply Drawn0.step)⟩

/-! ### spec_l1Value: function 43 -/
set_option maxHeartbeats 8000000 in
set_option maxRecDepth 100000 in
theorem spec_l1Value.calls (a0 : Int) (r : Bool) (w : World) (h : spec_l1Value.f a0 = some r) :
  Calls Try.prog 43 #[.int .i64 a0] w fun e w' => e = .returned (.bool r) ∧ Drawn0 w w' := by
 have H : ((spec_l1In.f a0 0 9999).bind fun t103 => (some t103)) = some r := h
 clear h
 replace H := Option.bind_eq_some_iff.mp H
 obtain ⟨t103, A20, H⟩ := H
 replace H : (some t103) = some r := H
 have A2 := Aside0.mk A20
 clear A20
 obtain rfl := Option.some.inj H
 go_enter Try.func43, Try.ntmps43
 go_wp2_with (first | ((with_reducible refine gate_callee (f := 56) rfl ?_); refine goesL_ (some 4) rfl rfl Try.func56 (by kernel_rfl) rfl #[.int .i64 a0, .int .i64 0, .int .i64 9999] rfl (by (try simp only [List.map_toArray, List.map_cons, List.map_nil]); first | done | rfl | (simp only [List.length_drop, List.length_take]; rfl)) ?_; (with_reducible refine (spec_l1In.calls a0 0 9999 t103 _ A2.out).mono ?_); rintro e w' ⟨rfl, ⟨nd, rfl⟩⟩; refine ⟨_, rfl, ?_⟩))
 go_ret
 exact ⟨by first | rfl | (simp; done) | (simp [*]; done), by repeat (first | exact Drawn0.refl _ | apply Drawn0.step)⟩

/-! ### spec_ChainFault: function 14 -/
set_option maxHeartbeats 8000000 in
set_option maxRecDepth 100000 in
theorem spec_ChainFault.calls (k : Nat) (A0 : Option Addr) (c0 : Nat) (l0 : List (S58)) (r : Int) (w : World) (hr0 : Kd.C k58 w A0 l0.length l0) (hc0 : l0.length ≤ c0) (h : spec_ChainFault.f k l0 = some r) :
  Calls Try.prog 14 #[.slice A0 l0.length c0] w fun e w' => e = .returned (.int .i64 r) ∧ Below w.heap.size w w' := by
 have hu58 := Try.underlying58
 have HR0 := Aside0.mk hr0
 have HC0 := Aside0.mk hc0
 clear hr0 hc0
 have HB := Aside0.mk (Below.refl w.heap.size w)
 have H : (if (l0.length : Int) > 12 then (some 2) else (spec_ChainFault.l0 k l0 0)) = some r := h
 clear h
 by_cases c2 : (l0.length : Int) > 12
 ·rw [if_pos c2] at H
  have c2b0 : decide (12 < (l0.length : Int)) = true := decide_eq_true c2
  have c2b1 : decide (12 < l0.length) = true := decide_eq_true (by omega)
  clear c2
  obtain rfl := Option.some.inj H
  go_enter Try.func14, Try.ntmps14
  go_wp2
  repeat (go_quiet (fail); try go_wp2)
  go_ret
  exact ⟨by first | rfl | (simp [errW_none, errW_some] <;> rfl) | (simp [*, errW_none, errW_some] <;> rfl), by repeat (first | (with_reducible first | exact HB.out | apply below_alloc | apply pw_below_drewN | apply below_drew1) | exact HB.out)⟩
 ·rw [if_neg c2] at H
  have c2b0 : decide (12 < (l0.length : Int)) = false := decide_eq_false c2
  have c2b1 : decide (12 < l0.length) = false := decide_eq_false (by omega)
  clear c2
  have H' := Aside0.mk H
  clear H
  go_enter Try.func14, Try.ntmps14
  go_wp2
  repeat (go_quiet (fail); try go_wp2)
  go_loopg [3] k (fun kq v3 w' => ∃ (x3_1 : Int), v3 = .int .i64 x3_1 ∧ Aside0 (spec_ChainFault.l0 kq l0 x3_1 = some r) ∧ Aside0 (kq ≤ k) ∧ Aside0 (Below w.heap.size w w'))
  case atStart => exact ⟨(0), (by first | rfl | (simp; done) | (simp [*]; done)), H', ⟨Nat.le_refl _⟩, ⟨by repeat (first | (with_reducible first | exact HB.out | apply below_alloc | apply pw_below_drewN | apply below_drew1) | exact HB.out)⟩⟩
  case round =>
   clear H'
   try clear c1
   try clear c2
   try clear c2b0
   try clear c2b1
   try clear p2
   obtain ⟨x3_1, rfl, HA, HK1, HB⟩ := hrel
   cases gk with
   | zero => exact absurd HA.out (by simp [spec_ChainFault.l0])
   | succ k1 =>
    have H := HA.out
    clear HA
    simp only [spec_ChainFault.l0] at H
    by_cases c3 : x3_1 < (l0.length : Int)
    ·rw [if_pos c3] at H
     have c3b0 : decide (x3_1 < (l0.length : Int)) = true := decide_eq_true c3
     clear c3
     by_cases c4 : 0 ≤ x3_1
     ·rw [if_pos c4] at H
      have c4b0 : decide (0 ≤ x3_1) = true := decide_eq_true c4
      clear c4
      have HC5 := Aside0.mk H
      clear H
      have p104 : 0 ≤ (x3_1 : Int) := of_decide_eq_true (by first | (with_reducible assumption) | assumption)
      have q104 : x3_1 < (l0.length : Int) := of_decide_eq_true (by first | (with_reducible assumption) | assumption)
      obtain ⟨ad104, e104, hx104_0, hx104_1, hx104_2, hx104_3⟩ := at_T58 HR0.out x3_1 p104 q104
      cases e104
      replace hx104_0 := (HB.out.cell (World.block_lt_of_cell? w _ hx104_0)).trans hx104_0
      replace hx104_1 := (HB.out.cell (World.block_lt_of_cell? w _ hx104_1)).trans hx104_1
      replace hx104_2 := (HB.out.cell (World.block_lt_of_cell? w _ hx104_2)).trans hx104_2
      replace hx104_3 := (HB.out.cell (World.block_lt_of_cell? w _ hx104_3)).trans hx104_3
      replace p104 := eq_true p104
      replace q104 := eq_true q104
      go_upto_region 7 with (first | ((with_reducible refine gate_dst (N := 4) rfl ?_); refine box_event ?hg (N := 4) ?hd (cs := #[.int .i64 0, .int .i64 0, .bool false, .int .i64 0]) (t := 58) ?hr ?_; (case hd => rfl); (case hg => rfl); (case hr => first | (go_simp; done) | (go_simp; rfl)); intro gb105 hg w6 hbox hb; have n0_ := Aside0.mk (below_step (by repeat (first | (with_reducible first | exact HB.out | apply below_alloc | apply pw_below_drewN | apply below_drew1) | exact HB.out)) hb); have n1_ := Aside0.mk (hbox); have n2_ := Aside0.mk ((by rw [hg]; exact (below_size (by repeat (first | (with_reducible first | exact HB.out | apply below_alloc | apply pw_below_drewN | apply below_drew1) | exact HB.out))) : w.heap.size ≤ gb105)); have n3_ := Aside0.mk ((by rw [hg]; exact (below_size (by repeat (first | (with_reducible first | exact HB.out | apply below_alloc | apply pw_below_drewN | apply below_drew1) | exact HB.out))) : w.heap.size ≤ gb105)); clear HB; have HB := n0_; have BK105 := n1_; have GW105 := n2_; have GE105 := n3_; clear n0_ n1_ n2_ n3_; clear hb hbox hg; have hcz7_0 : w6.cell? ⟨gb105, 0, none⟩ = some (.int .i64 0) := (blk_cell BK105.out 0).trans rfl; have hcz7_1 : w6.cell? ⟨gb105, 1, none⟩ = some (.int .i64 0) := (blk_cell BK105.out 1).trans rfl; have hcz7_2 : w6.cell? ⟨gb105, 2, none⟩ = some (.bool false) := (blk_cell BK105.out 2).trans rfl; have hcz7_3 : w6.cell? ⟨gb105, 3, none⟩ = some (.int .i64 0) := (blk_cell BK105.out 3).trans rfl; have hfz7_0 := blk_frozen BK105.out 0; have hfz7_1 := blk_frozen BK105.out 1; have hfz7_2 := blk_frozen BK105.out 2; have hfz7_3 := blk_frozen BK105.out 3))
      repeat (go_quiet (first | ((with_reducible refine gate_dst (N := 4) rfl ?_); refine box_event ?hg (N := 4) ?hd (cs := #[.int .i64 0, .int .i64 0, .bool false, .int .i64 0]) (t := 58) ?hr ?_; (case hd => rfl); (case hg => rfl); (case hr => first | (go_simp; done) | (go_simp; rfl)); intro gb105 hg w6 hbox hb; have n0_ := Aside0.mk (below_step (by repeat (first | (with_reducible first | exact HB.out | apply below_alloc | apply pw_below_drewN | apply below_drew1) | exact HB.out)) hb); have n1_ := Aside0.mk (hbox); have n2_ := Aside0.mk ((by rw [hg]; exact (below_size (by repeat (first | (with_reducible first | exact HB.out | apply below_alloc | apply pw_below_drewN | apply below_drew1) | exact HB.out))) : w.heap.size ≤ gb105)); have n3_ := Aside0.mk ((by rw [hg]; exact (below_size (by repeat (first | (with_reducible first | exact HB.out | apply below_alloc | apply pw_below_drewN | apply below_drew1) | exact HB.out))) : w.heap.size ≤ gb105)); clear HB; have HB := n0_; have BK105 := n1_; have GW105 := n2_; have GE105 := n3_; clear n0_ n1_ n2_ n3_; clear hb hbox hg; have hcz7_0 : w6.cell? ⟨gb105, 0, none⟩ = some (.int .i64 0) := (blk_cell BK105.out 0).trans rfl; have hcz7_1 : w6.cell? ⟨gb105, 1, none⟩ = some (.int .i64 0) := (blk_cell BK105.out 1).trans rfl; have hcz7_2 : w6.cell? ⟨gb105, 2, none⟩ = some (.bool false) := (blk_cell BK105.out 2).trans rfl; have hcz7_3 : w6.cell? ⟨gb105, 3, none⟩ = some (.int .i64 0) := (blk_cell BK105.out 3).trans rfl; have hfz7_0 := blk_frozen BK105.out 0; have hfz7_1 := blk_frozen BK105.out 1; have hfz7_2 := blk_frozen BK105.out 2; have hfz7_3 := blk_frozen BK105.out 3)); go_upto_region 7 with (first | ((with_reducible refine gate_dst (N := 4) rfl ?_); refine box_event ?hg (N := 4) ?hd (cs := #[.int .i64 0, .int .i64 0, .bool false, .int .i64 0]) (t := 58) ?hr ?_; (case hd => rfl); (case hg => rfl); (case hr => first | (go_simp; done) | (go_simp; rfl)); intro gb105 hg w6 hbox hb; have n0_ := Aside0.mk (below_step (by repeat (first | (with_reducible first | exact HB.out | apply below_alloc | apply pw_below_drewN | apply below_drew1) | exact HB.out)) hb); have n1_ := Aside0.mk (hbox); have n2_ := Aside0.mk ((by rw [hg]; exact (below_size (by repeat (first | (with_reducible first | exact HB.out | apply below_alloc | apply pw_below_drewN | apply below_drew1) | exact HB.out))) : w.heap.size ≤ gb105)); have n3_ := Aside0.mk ((by rw [hg]; exact (below_size (by repeat (first | (with_reducible first | exact HB.out | apply below_alloc | apply pw_below_drewN | apply below_drew1) | exact HB.out))) : w.heap.size ≤ gb105)); clear HB; have HB := n0_; have BK105 := n1_; have GW105 := n2_; have GE105 := n3_; clear n0_ n1_ n2_ n3_; clear hb hbox hg; have hcz7_0 : w6.cell? ⟨gb105, 0, none⟩ = some (.int .i64 0) := (blk_cell BK105.out 0).trans rfl; have hcz7_1 : w6.cell? ⟨gb105, 1, none⟩ = some (.int .i64 0) := (blk_cell BK105.out 1).trans rfl; have hcz7_2 : w6.cell? ⟨gb105, 2, none⟩ = some (.bool false) := (blk_cell BK105.out 2).trans rfl; have hcz7_3 : w6.cell? ⟨gb105, 3, none⟩ = some (.int .i64 0) := (blk_cell BK105.out 3).trans rfl; have hfz7_0 := blk_frozen BK105.out 0; have hfz7_1 := blk_frozen BK105.out 1; have hfz7_2 := blk_frozen BK105.out 2; have hfz7_3 := blk_frozen BK105.out 3)))
      (try simp only [Act.put, List.setIfInBounds_toArray, List.set_cons_zero, List.set_cons_succ])
      go_cut [38] (fun v38 wc => ∃ (kq : Nat) (x38_4 : Bool), v38 = .bool x38_4 ∧ Aside0 (spec_ChainFault.j1 kq l0 x3_1 x38_4 ((rd_T58 l0 x3_1).f0) ((rd_T58 l0 x3_1).f1) ((rd_T58 l0 x3_1).f2) ((rd_T58 l0 x3_1).f3) = some r) ∧ Aside0 (kq ≤ k1) ∧ Aside0 (wc.heap[gb105]? = some (.cells #[.int .i64 ((rd_T58 l0 x3_1).f0), .int .i64 ((rd_T58 l0 x3_1).f1), .bool ((rd_T58 l0 x3_1).f2), .int .i64 ((rd_T58 l0 x3_1).f3)] 58 (0, 0))) ∧ Aside0 (Below w.heap.size w wc))
      case first =>
       have H := HC5.out
       clear HC5
       replace H := Option.bind_eq_some_iff.mp H
       obtain ⟨t106, A80, H⟩ := H
       replace H : (if t106 = true then (if ((rd_T58 l0 x3_1).f1) = 0 then ((spec_l1Value.f ((rd_T58 l0 x3_1).f3)).bind fun t107 => (spec_ChainFault.j1 k1 l0 x3_1 (!t107) ((rd_T58 l0 x3_1).f0) ((rd_T58 l0 x3_1).f1) ((rd_T58 l0 x3_1).f2) ((rd_T58 l0 x3_1).f3))) else ((spec_l5At.f ((rd_T58 l0 x3_1).f1)).bind fun t108 => (if t108 = true then ((spec_l1Value.f ((rd_T58 l0 x3_1).f3)).bind fun t109 => (spec_ChainFault.j1 k1 l0 x3_1 (!t109) ((rd_T58 l0 x3_1).f0) ((rd_T58 l0 x3_1).f1) ((rd_T58 l0 x3_1).f2) ((rd_T58 l0 x3_1).f3))) else (spec_ChainFault.j1 k1 l0 x3_1 true ((rd_T58 l0 x3_1).f0) ((rd_T58 l0 x3_1).f1) ((rd_T58 l0 x3_1).f2) ((rd_T58 l0 x3_1).f3))))) else (spec_ChainFault.j1 k1 l0 x3_1 true ((rd_T58 l0 x3_1).f0) ((rd_T58 l0 x3_1).f1) ((rd_T58 l0 x3_1).f2) ((rd_T58 l0 x3_1).f3))) = some r := H
       have A8 := Aside0.mk A80
       clear A80
       by_cases c9 : t106 = true
       ·subst c9
        have H1 : (if ((rd_T58 l0 x3_1).f1) = 0 then ((spec_l1Value.f ((rd_T58 l0 x3_1).f3)).bind fun t107 => (spec_ChainFault.j1 k1 l0 x3_1 (!t107) ((rd_T58 l0 x3_1).f0) ((rd_T58 l0 x3_1).f1) ((rd_T58 l0 x3_1).f2) ((rd_T58 l0 x3_1).f3))) else ((spec_l5At.f ((rd_T58 l0 x3_1).f1)).bind fun t108 => (if t108 = true then ((spec_l1Value.f ((rd_T58 l0 x3_1).f3)).bind fun t109 => (spec_ChainFault.j1 k1 l0 x3_1 (!t109) ((rd_T58 l0 x3_1).f0) ((rd_T58 l0 x3_1).f1) ((rd_T58 l0 x3_1).f2) ((rd_T58 l0 x3_1).f3))) else (spec_ChainFault.j1 k1 l0 x3_1 true ((rd_T58 l0 x3_1).f0) ((rd_T58 l0 x3_1).f1) ((rd_T58 l0 x3_1).f2) ((rd_T58 l0 x3_1).f3))))) = some r := by rw [if_pos rfl] at H; exact H
        clear H
        have H := H1
        clear H1
        by_cases c10 : ((rd_T58 l0 x3_1).f1) = 0
        ·rw [if_pos c10] at H
         have c10b0 : (((rd_T58 l0 x3_1).f1) == 0) = true := beq_iff_eq.mpr c10
         have c10b1 : (((rd_T58 l0 x3_1).f1) != 0) = false := bne_eq_false_iff_eq.mpr c10
         clear c10
         (first | rw [c10b0] | (simp only [i64_w, i32_w]; rw [c10b0]) | skip)
         replace H := Option.bind_eq_some_iff.mp H
         obtain ⟨t107, A110, H⟩ := H
         replace H : (spec_ChainFault.j1 k1 l0 x3_1 (!t107) ((rd_T58 l0 x3_1).f0) ((rd_T58 l0 x3_1).f1) ((rd_T58 l0 x3_1).f2) ((rd_T58 l0 x3_1).f3)) = some r := H
         have A11 := Aside0.mk A110
         clear A110
         have H' := Aside0.mk H
         clear H
         have hcz12_0 : w6.cell? ⟨gb105, 0, none⟩ = some (.int .i64 0) := (blk_cell BK105.out 0).trans rfl
         have hcz12_1 : w6.cell? ⟨gb105, 1, none⟩ = some (.int .i64 0) := (blk_cell BK105.out 1).trans rfl
         have hcz12_2 : w6.cell? ⟨gb105, 2, none⟩ = some (.bool false) := (blk_cell BK105.out 2).trans rfl
         have hcz12_3 : w6.cell? ⟨gb105, 3, none⟩ = some (.int .i64 0) := (blk_cell BK105.out 3).trans rfl
         have hfz12_0 := blk_frozen BK105.out 0
         have hfz12_1 := blk_frozen BK105.out 1
         have hfz12_2 := blk_frozen BK105.out 2
         have hfz12_3 := blk_frozen BK105.out 3
         go_wp2_with (first | (go_at_call 41; (with_reducible refine (spec_l5Txn.calls ((rd_T58 l0 x3_1).f0) true _ A8.out).mono ?_); rintro e w' ⟨rfl, ⟨nd, rfl⟩⟩; (try first | exact ⟨rfl, _, World.drewN_drewN _ _ _⟩ | exact ⟨rfl, _, Eq.trans (World.drewN_drewN _ _ _) (congrArg (World.drewN _) (Nat.add_assoc _ _ _))⟩)) | (go_at_call 43; (with_reducible refine (spec_l1Value.calls ((rd_T58 l0 x3_1).f3) t107 _ A11.out).mono ?_); rintro e w' ⟨rfl, ⟨nd, rfl⟩⟩; (try first | exact ⟨rfl, _, World.drewN_drewN _ _ _⟩ | exact ⟨rfl, _, Eq.trans (World.drewN_drewN _ _ _) (congrArg (World.drewN _) (Nat.add_assoc _ _ _))⟩)))
         repeat (go_quiet (first | (go_at_call 41; (with_reducible refine (spec_l5Txn.calls ((rd_T58 l0 x3_1).f0) true _ A8.out).mono ?_); rintro e w' ⟨rfl, ⟨nd, rfl⟩⟩; (try first | exact ⟨rfl, _, World.drewN_drewN _ _ _⟩ | exact ⟨rfl, _, Eq.trans (World.drewN_drewN _ _ _) (congrArg (World.drewN _) (Nat.add_assoc _ _ _))⟩)) | (go_at_call 43; (with_reducible refine (spec_l1Value.calls ((rd_T58 l0 x3_1).f3) t107 _ A11.out).mono ?_); rintro e w' ⟨rfl, ⟨nd, rfl⟩⟩; (try first | exact ⟨rfl, _, World.drewN_drewN _ _ _⟩ | exact ⟨rfl, _, Eq.trans (World.drewN_drewN _ _ _) (congrArg (World.drewN _) (Nat.add_assoc _ _ _))⟩))); try go_wp2_with (first | (go_at_call 41; (with_reducible refine (spec_l5Txn.calls ((rd_T58 l0 x3_1).f0) true _ A8.out).mono ?_); rintro e w' ⟨rfl, ⟨nd, rfl⟩⟩; (try first | exact ⟨rfl, _, World.drewN_drewN _ _ _⟩ | exact ⟨rfl, _, Eq.trans (World.drewN_drewN _ _ _) (congrArg (World.drewN _) (Nat.add_assoc _ _ _))⟩)) | (go_at_call 43; (with_reducible refine (spec_l1Value.calls ((rd_T58 l0 x3_1).f3) t107 _ A11.out).mono ?_); rintro e w' ⟨rfl, ⟨nd, rfl⟩⟩; (try first | exact ⟨rfl, _, World.drewN_drewN _ _ _⟩ | exact ⟨rfl, _, Eq.trans (World.drewN_drewN _ _ _) (congrArg (World.drewN _) (Nat.add_assoc _ _ _))⟩))))
         go_meet
         case rel => exact ⟨_, (!t107), (by first | rfl | (simp; done) | (simp [*]; done)), H', ⟨by have := HK1.out; first | omega | exact Nat.le_refl _⟩, ⟨by (with_reducible repeat (first | refine blk_drewN ?_ _ | refine blk_drew ?_ | refine blk_alloc ?_ _)); refine blk_put (cs := #[.int .i64 ((rd_T58 l0 x3_1).f0), .int .i64 ((rd_T58 l0 x3_1).f1), .bool ((rd_T58 l0 x3_1).f2), .int .i64 0]) ?_ 3 _ rfl; (with_reducible repeat (first | refine blk_drewN ?_ _ | refine blk_drew ?_ | refine blk_alloc ?_ _)); refine blk_put (cs := #[.int .i64 ((rd_T58 l0 x3_1).f0), .int .i64 ((rd_T58 l0 x3_1).f1), .bool false, .int .i64 0]) ?_ 2 _ rfl; (with_reducible repeat (first | refine blk_drewN ?_ _ | refine blk_drew ?_ | refine blk_alloc ?_ _)); refine blk_put (cs := #[.int .i64 ((rd_T58 l0 x3_1).f0), .int .i64 0, .bool false, .int .i64 0]) ?_ 1 _ rfl; (with_reducible repeat (first | refine blk_drewN ?_ _ | refine blk_drew ?_ | refine blk_alloc ?_ _)); refine blk_put (cs := #[.int .i64 0, .int .i64 0, .bool false, .int .i64 0]) ?_ 0 _ rfl; (with_reducible repeat (first | refine blk_drewN ?_ _ | refine blk_drew ?_ | refine blk_alloc ?_ _)); exact BK105.out⟩, ⟨by repeat (first | (with_reducible first | exact HB.out | apply below_alloc | apply pw_below_drewN | apply below_drew1 | refine below_set ?_ GE105.out) | exact HB.out)⟩⟩
        ·rw [if_neg c10] at H
         have c10b0 : (((rd_T58 l0 x3_1).f1) == 0) = false := beq_eq_false_iff_ne.mpr c10
         have c10b1 : (((rd_T58 l0 x3_1).f1) != 0) = true := bne_iff_ne.mpr c10
         (first | rw [c10b0] | (simp only [i64_w, i32_w]; rw [c10b0]) | skip)
         replace H := Option.bind_eq_some_iff.mp H
         obtain ⟨t108, A130, H⟩ := H
         replace H : (if t108 = true then ((spec_l1Value.f ((rd_T58 l0 x3_1).f3)).bind fun t109 => (spec_ChainFault.j1 k1 l0 x3_1 (!t109) ((rd_T58 l0 x3_1).f0) ((rd_T58 l0 x3_1).f1) ((rd_T58 l0 x3_1).f2) ((rd_T58 l0 x3_1).f3))) else (spec_ChainFault.j1 k1 l0 x3_1 true ((rd_T58 l0 x3_1).f0) ((rd_T58 l0 x3_1).f1) ((rd_T58 l0 x3_1).f2) ((rd_T58 l0 x3_1).f3))) = some r := H
         have A13 := Aside0.mk A130
         clear A130
         by_cases c14 : t108 = true
         ·subst c14
          have H1 : ((spec_l1Value.f ((rd_T58 l0 x3_1).f3)).bind fun t109 => (spec_ChainFault.j1 k1 l0 x3_1 (!t109) ((rd_T58 l0 x3_1).f0) ((rd_T58 l0 x3_1).f1) ((rd_T58 l0 x3_1).f2) ((rd_T58 l0 x3_1).f3))) = some r := by rw [if_pos rfl] at H; exact H
          clear H
          have H := H1
          clear H1
          replace H := Option.bind_eq_some_iff.mp H
          obtain ⟨t109, A150, H⟩ := H
          replace H : (spec_ChainFault.j1 k1 l0 x3_1 (!t109) ((rd_T58 l0 x3_1).f0) ((rd_T58 l0 x3_1).f1) ((rd_T58 l0 x3_1).f2) ((rd_T58 l0 x3_1).f3)) = some r := H
          have A15 := Aside0.mk A150
          clear A150
          have H' := Aside0.mk H
          clear H
          have hcz16_0 : w6.cell? ⟨gb105, 0, none⟩ = some (.int .i64 0) := (blk_cell BK105.out 0).trans rfl
          have hcz16_1 : w6.cell? ⟨gb105, 1, none⟩ = some (.int .i64 0) := (blk_cell BK105.out 1).trans rfl
          have hcz16_2 : w6.cell? ⟨gb105, 2, none⟩ = some (.bool false) := (blk_cell BK105.out 2).trans rfl
          have hcz16_3 : w6.cell? ⟨gb105, 3, none⟩ = some (.int .i64 0) := (blk_cell BK105.out 3).trans rfl
          have hfz16_0 := blk_frozen BK105.out 0
          have hfz16_1 := blk_frozen BK105.out 1
          have hfz16_2 := blk_frozen BK105.out 2
          have hfz16_3 := blk_frozen BK105.out 3
          go_wp2_with (first | (go_at_call 41; (with_reducible refine (spec_l5Txn.calls ((rd_T58 l0 x3_1).f0) true _ A8.out).mono ?_); rintro e w' ⟨rfl, ⟨nd, rfl⟩⟩; (try first | exact ⟨rfl, _, World.drewN_drewN _ _ _⟩ | exact ⟨rfl, _, Eq.trans (World.drewN_drewN _ _ _) (congrArg (World.drewN _) (Nat.add_assoc _ _ _))⟩)) | (go_at_call 42; (with_reducible refine (spec_l5At.calls ((rd_T58 l0 x3_1).f1) true _ A13.out).mono ?_); rintro e w' ⟨rfl, ⟨nd, rfl⟩⟩; (try first | exact ⟨rfl, _, World.drewN_drewN _ _ _⟩ | exact ⟨rfl, _, Eq.trans (World.drewN_drewN _ _ _) (congrArg (World.drewN _) (Nat.add_assoc _ _ _))⟩)) | (go_at_call 43; (with_reducible refine (spec_l1Value.calls ((rd_T58 l0 x3_1).f3) t109 _ A15.out).mono ?_); rintro e w' ⟨rfl, ⟨nd, rfl⟩⟩; (try first | exact ⟨rfl, _, World.drewN_drewN _ _ _⟩ | exact ⟨rfl, _, Eq.trans (World.drewN_drewN _ _ _) (congrArg (World.drewN _) (Nat.add_assoc _ _ _))⟩)))
          repeat (go_quiet (first | (go_at_call 41; (with_reducible refine (spec_l5Txn.calls ((rd_T58 l0 x3_1).f0) true _ A8.out).mono ?_); rintro e w' ⟨rfl, ⟨nd, rfl⟩⟩; (try first | exact ⟨rfl, _, World.drewN_drewN _ _ _⟩ | exact ⟨rfl, _, Eq.trans (World.drewN_drewN _ _ _) (congrArg (World.drewN _) (Nat.add_assoc _ _ _))⟩)) | (go_at_call 42; (with_reducible refine (spec_l5At.calls ((rd_T58 l0 x3_1).f1) true _ A13.out).mono ?_); rintro e w' ⟨rfl, ⟨nd, rfl⟩⟩; (try first | exact ⟨rfl, _, World.drewN_drewN _ _ _⟩ | exact ⟨rfl, _, Eq.trans (World.drewN_drewN _ _ _) (congrArg (World.drewN _) (Nat.add_assoc _ _ _))⟩)) | (go_at_call 43; (with_reducible refine (spec_l1Value.calls ((rd_T58 l0 x3_1).f3) t109 _ A15.out).mono ?_); rintro e w' ⟨rfl, ⟨nd, rfl⟩⟩; (try first | exact ⟨rfl, _, World.drewN_drewN _ _ _⟩ | exact ⟨rfl, _, Eq.trans (World.drewN_drewN _ _ _) (congrArg (World.drewN _) (Nat.add_assoc _ _ _))⟩))); try go_wp2_with (first | (go_at_call 41; (with_reducible refine (spec_l5Txn.calls ((rd_T58 l0 x3_1).f0) true _ A8.out).mono ?_); rintro e w' ⟨rfl, ⟨nd, rfl⟩⟩; (try first | exact ⟨rfl, _, World.drewN_drewN _ _ _⟩ | exact ⟨rfl, _, Eq.trans (World.drewN_drewN _ _ _) (congrArg (World.drewN _) (Nat.add_assoc _ _ _))⟩)) | (go_at_call 42; (with_reducible refine (spec_l5At.calls ((rd_T58 l0 x3_1).f1) true _ A13.out).mono ?_); rintro e w' ⟨rfl, ⟨nd, rfl⟩⟩; (try first | exact ⟨rfl, _, World.drewN_drewN _ _ _⟩ | exact ⟨rfl, _, Eq.trans (World.drewN_drewN _ _ _) (congrArg (World.drewN _) (Nat.add_assoc _ _ _))⟩)) | (go_at_call 43; (with_reducible refine (spec_l1Value.calls ((rd_T58 l0 x3_1).f3) t109 _ A15.out).mono ?_); rintro e w' ⟨rfl, ⟨nd, rfl⟩⟩; (try first | exact ⟨rfl, _, World.drewN_drewN _ _ _⟩ | exact ⟨rfl, _, Eq.trans (World.drewN_drewN _ _ _) (congrArg (World.drewN _) (Nat.add_assoc _ _ _))⟩))))
          go_meet
          case rel => exact ⟨_, (!t109), (by first | rfl | (simp; done) | (simp [*]; done)), H', ⟨by have := HK1.out; first | omega | exact Nat.le_refl _⟩, ⟨by (with_reducible repeat (first | refine blk_drewN ?_ _ | refine blk_drew ?_ | refine blk_alloc ?_ _)); refine blk_put (cs := #[.int .i64 ((rd_T58 l0 x3_1).f0), .int .i64 ((rd_T58 l0 x3_1).f1), .bool ((rd_T58 l0 x3_1).f2), .int .i64 0]) ?_ 3 _ rfl; (with_reducible repeat (first | refine blk_drewN ?_ _ | refine blk_drew ?_ | refine blk_alloc ?_ _)); refine blk_put (cs := #[.int .i64 ((rd_T58 l0 x3_1).f0), .int .i64 ((rd_T58 l0 x3_1).f1), .bool false, .int .i64 0]) ?_ 2 _ rfl; (with_reducible repeat (first | refine blk_drewN ?_ _ | refine blk_drew ?_ | refine blk_alloc ?_ _)); refine blk_put (cs := #[.int .i64 ((rd_T58 l0 x3_1).f0), .int .i64 0, .bool false, .int .i64 0]) ?_ 1 _ rfl; (with_reducible repeat (first | refine blk_drewN ?_ _ | refine blk_drew ?_ | refine blk_alloc ?_ _)); refine blk_put (cs := #[.int .i64 0, .int .i64 0, .bool false, .int .i64 0]) ?_ 0 _ rfl; (with_reducible repeat (first | refine blk_drewN ?_ _ | refine blk_drew ?_ | refine blk_alloc ?_ _)); exact BK105.out⟩, ⟨by repeat (first | (with_reducible first | exact HB.out | apply below_alloc | apply pw_below_drewN | apply below_drew1 | refine below_set ?_ GE105.out) | exact HB.out)⟩⟩
         ·replace c14 := Bool.eq_false_iff.mpr c14
          subst c14
          have H1 : (spec_ChainFault.j1 k1 l0 x3_1 true ((rd_T58 l0 x3_1).f0) ((rd_T58 l0 x3_1).f1) ((rd_T58 l0 x3_1).f2) ((rd_T58 l0 x3_1).f3)) = some r := by rw [if_neg (show ¬ (false = true) by decide)] at H; exact H
          clear H
          have H := H1
          clear H1
          have H' := Aside0.mk H
          clear H
          have hcz17_0 : w6.cell? ⟨gb105, 0, none⟩ = some (.int .i64 0) := (blk_cell BK105.out 0).trans rfl
          have hcz17_1 : w6.cell? ⟨gb105, 1, none⟩ = some (.int .i64 0) := (blk_cell BK105.out 1).trans rfl
          have hcz17_2 : w6.cell? ⟨gb105, 2, none⟩ = some (.bool false) := (blk_cell BK105.out 2).trans rfl
          have hcz17_3 : w6.cell? ⟨gb105, 3, none⟩ = some (.int .i64 0) := (blk_cell BK105.out 3).trans rfl
          have hfz17_0 := blk_frozen BK105.out 0
          have hfz17_1 := blk_frozen BK105.out 1
          have hfz17_2 := blk_frozen BK105.out 2
          have hfz17_3 := blk_frozen BK105.out 3
          go_wp2_with (first | (go_at_call 41; (with_reducible refine (spec_l5Txn.calls ((rd_T58 l0 x3_1).f0) true _ A8.out).mono ?_); rintro e w' ⟨rfl, ⟨nd, rfl⟩⟩; (try first | exact ⟨rfl, _, World.drewN_drewN _ _ _⟩ | exact ⟨rfl, _, Eq.trans (World.drewN_drewN _ _ _) (congrArg (World.drewN _) (Nat.add_assoc _ _ _))⟩)) | (go_at_call 42; (with_reducible refine (spec_l5At.calls ((rd_T58 l0 x3_1).f1) false _ A13.out).mono ?_); rintro e w' ⟨rfl, ⟨nd, rfl⟩⟩; (try first | exact ⟨rfl, _, World.drewN_drewN _ _ _⟩ | exact ⟨rfl, _, Eq.trans (World.drewN_drewN _ _ _) (congrArg (World.drewN _) (Nat.add_assoc _ _ _))⟩)))
          repeat (go_quiet (first | (go_at_call 41; (with_reducible refine (spec_l5Txn.calls ((rd_T58 l0 x3_1).f0) true _ A8.out).mono ?_); rintro e w' ⟨rfl, ⟨nd, rfl⟩⟩; (try first | exact ⟨rfl, _, World.drewN_drewN _ _ _⟩ | exact ⟨rfl, _, Eq.trans (World.drewN_drewN _ _ _) (congrArg (World.drewN _) (Nat.add_assoc _ _ _))⟩)) | (go_at_call 42; (with_reducible refine (spec_l5At.calls ((rd_T58 l0 x3_1).f1) false _ A13.out).mono ?_); rintro e w' ⟨rfl, ⟨nd, rfl⟩⟩; (try first | exact ⟨rfl, _, World.drewN_drewN _ _ _⟩ | exact ⟨rfl, _, Eq.trans (World.drewN_drewN _ _ _) (congrArg (World.drewN _) (Nat.add_assoc _ _ _))⟩))); try go_wp2_with (first | (go_at_call 41; (with_reducible refine (spec_l5Txn.calls ((rd_T58 l0 x3_1).f0) true _ A8.out).mono ?_); rintro e w' ⟨rfl, ⟨nd, rfl⟩⟩; (try first | exact ⟨rfl, _, World.drewN_drewN _ _ _⟩ | exact ⟨rfl, _, Eq.trans (World.drewN_drewN _ _ _) (congrArg (World.drewN _) (Nat.add_assoc _ _ _))⟩)) | (go_at_call 42; (with_reducible refine (spec_l5At.calls ((rd_T58 l0 x3_1).f1) false _ A13.out).mono ?_); rintro e w' ⟨rfl, ⟨nd, rfl⟩⟩; (try first | exact ⟨rfl, _, World.drewN_drewN _ _ _⟩ | exact ⟨rfl, _, Eq.trans (World.drewN_drewN _ _ _) (congrArg (World.drewN _) (Nat.add_assoc _ _ _))⟩))))
          go_meet
          case rel => exact ⟨_, (true), (by first | rfl | (simp; done) | (simp [*]; done)), H', ⟨by have := HK1.out; first | omega | exact Nat.le_refl _⟩, ⟨by (with_reducible repeat (first | refine blk_drewN ?_ _ | refine blk_drew ?_ | refine blk_alloc ?_ _)); refine blk_put (cs := #[.int .i64 ((rd_T58 l0 x3_1).f0), .int .i64 ((rd_T58 l0 x3_1).f1), .bool ((rd_T58 l0 x3_1).f2), .int .i64 0]) ?_ 3 _ rfl; (with_reducible repeat (first | refine blk_drewN ?_ _ | refine blk_drew ?_ | refine blk_alloc ?_ _)); refine blk_put (cs := #[.int .i64 ((rd_T58 l0 x3_1).f0), .int .i64 ((rd_T58 l0 x3_1).f1), .bool false, .int .i64 0]) ?_ 2 _ rfl; (with_reducible repeat (first | refine blk_drewN ?_ _ | refine blk_drew ?_ | refine blk_alloc ?_ _)); refine blk_put (cs := #[.int .i64 ((rd_T58 l0 x3_1).f0), .int .i64 0, .bool false, .int .i64 0]) ?_ 1 _ rfl; (with_reducible repeat (first | refine blk_drewN ?_ _ | refine blk_drew ?_ | refine blk_alloc ?_ _)); refine blk_put (cs := #[.int .i64 0, .int .i64 0, .bool false, .int .i64 0]) ?_ 0 _ rfl; (with_reducible repeat (first | refine blk_drewN ?_ _ | refine blk_drew ?_ | refine blk_alloc ?_ _)); exact BK105.out⟩, ⟨by repeat (first | (with_reducible first | exact HB.out | apply below_alloc | apply pw_below_drewN | apply below_drew1 | refine below_set ?_ GE105.out) | exact HB.out)⟩⟩
       ·replace c9 := Bool.eq_false_iff.mpr c9
        subst c9
        have H1 : (spec_ChainFault.j1 k1 l0 x3_1 true ((rd_T58 l0 x3_1).f0) ((rd_T58 l0 x3_1).f1) ((rd_T58 l0 x3_1).f2) ((rd_T58 l0 x3_1).f3)) = some r := by rw [if_neg (show ¬ (false = true) by decide)] at H; exact H
        clear H
        have H := H1
        clear H1
        have H' := Aside0.mk H
        clear H
        have hcz18_0 : w6.cell? ⟨gb105, 0, none⟩ = some (.int .i64 0) := (blk_cell BK105.out 0).trans rfl
        have hcz18_1 : w6.cell? ⟨gb105, 1, none⟩ = some (.int .i64 0) := (blk_cell BK105.out 1).trans rfl
        have hcz18_2 : w6.cell? ⟨gb105, 2, none⟩ = some (.bool false) := (blk_cell BK105.out 2).trans rfl
        have hcz18_3 : w6.cell? ⟨gb105, 3, none⟩ = some (.int .i64 0) := (blk_cell BK105.out 3).trans rfl
        have hfz18_0 := blk_frozen BK105.out 0
        have hfz18_1 := blk_frozen BK105.out 1
        have hfz18_2 := blk_frozen BK105.out 2
        have hfz18_3 := blk_frozen BK105.out 3
        go_wp2_with (first | (go_at_call 41; (with_reducible refine (spec_l5Txn.calls ((rd_T58 l0 x3_1).f0) false _ A8.out).mono ?_); rintro e w' ⟨rfl, ⟨nd, rfl⟩⟩; (try first | exact ⟨rfl, _, World.drewN_drewN _ _ _⟩ | exact ⟨rfl, _, Eq.trans (World.drewN_drewN _ _ _) (congrArg (World.drewN _) (Nat.add_assoc _ _ _))⟩)))
        repeat (go_quiet (first | (go_at_call 41; (with_reducible refine (spec_l5Txn.calls ((rd_T58 l0 x3_1).f0) false _ A8.out).mono ?_); rintro e w' ⟨rfl, ⟨nd, rfl⟩⟩; (try first | exact ⟨rfl, _, World.drewN_drewN _ _ _⟩ | exact ⟨rfl, _, Eq.trans (World.drewN_drewN _ _ _) (congrArg (World.drewN _) (Nat.add_assoc _ _ _))⟩))); try go_wp2_with (first | (go_at_call 41; (with_reducible refine (spec_l5Txn.calls ((rd_T58 l0 x3_1).f0) false _ A8.out).mono ?_); rintro e w' ⟨rfl, ⟨nd, rfl⟩⟩; (try first | exact ⟨rfl, _, World.drewN_drewN _ _ _⟩ | exact ⟨rfl, _, Eq.trans (World.drewN_drewN _ _ _) (congrArg (World.drewN _) (Nat.add_assoc _ _ _))⟩))))
        go_meet
        case rel => exact ⟨_, (true), (by first | rfl | (simp; done) | (simp [*]; done)), H', ⟨by have := HK1.out; first | omega | exact Nat.le_refl _⟩, ⟨by (with_reducible repeat (first | refine blk_drewN ?_ _ | refine blk_drew ?_ | refine blk_alloc ?_ _)); refine blk_put (cs := #[.int .i64 ((rd_T58 l0 x3_1).f0), .int .i64 ((rd_T58 l0 x3_1).f1), .bool ((rd_T58 l0 x3_1).f2), .int .i64 0]) ?_ 3 _ rfl; (with_reducible repeat (first | refine blk_drewN ?_ _ | refine blk_drew ?_ | refine blk_alloc ?_ _)); refine blk_put (cs := #[.int .i64 ((rd_T58 l0 x3_1).f0), .int .i64 ((rd_T58 l0 x3_1).f1), .bool false, .int .i64 0]) ?_ 2 _ rfl; (with_reducible repeat (first | refine blk_drewN ?_ _ | refine blk_drew ?_ | refine blk_alloc ?_ _)); refine blk_put (cs := #[.int .i64 ((rd_T58 l0 x3_1).f0), .int .i64 0, .bool false, .int .i64 0]) ?_ 1 _ rfl; (with_reducible repeat (first | refine blk_drewN ?_ _ | refine blk_drew ?_ | refine blk_alloc ?_ _)); refine blk_put (cs := #[.int .i64 0, .int .i64 0, .bool false, .int .i64 0]) ?_ 0 _ rfl; (with_reducible repeat (first | refine blk_drewN ?_ _ | refine blk_drew ?_ | refine blk_alloc ?_ _)); exact BK105.out⟩, ⟨by repeat (first | (with_reducible first | exact HB.out | apply below_alloc | apply pw_below_drewN | apply below_drew1 | refine below_set ?_ GE105.out) | exact HB.out)⟩⟩
      case rest =>
       clear HC5
       try clear c1
       try clear p1
       try clear q1
       try clear hx1
       try clear c2
       try clear c2b0
       try clear c2b1
       try clear p2
       try clear c3
       try clear c3b0
       try clear c4
       try clear c4b0
       try clear c9
       try clear c10
       try clear c10b0
       try clear c10b1
       try clear p10
       try clear q10
       try clear hx10
       try clear c14
       try clear hcz12_0
       try clear hcz12_1
       try clear hcz12_2
       try clear hcz12_3
       try clear hcz16_0
       try clear hcz16_1
       try clear hcz16_2
       try clear hcz16_3
       try clear hcz17_0
       try clear hcz17_1
       try clear hcz17_2
       try clear hcz17_3
       try clear hcz18_0
       try clear hcz18_1
       try clear hcz18_2
       try clear hcz18_3
       try clear hcz7_0
       try clear hcz7_1
       try clear hcz7_2
       try clear hcz7_3
       try clear hfz12_0
       try clear hfz12_1
       try clear hfz12_2
       try clear hfz12_3
       try clear hfz16_0
       try clear hfz16_1
       try clear hfz16_2
       try clear hfz16_3
       try clear hfz17_0
       try clear hfz17_1
       try clear hfz17_2
       try clear hfz17_3
       try clear hfz18_0
       try clear hfz18_1
       try clear hfz18_2
       try clear hfz18_3
       try clear hfz7_0
       try clear hfz7_1
       try clear hfz7_2
       try clear hfz7_3
       try clear hx104_0
       try clear hx104_1
       try clear hx104_2
       try clear hx104_3
       try clear p104
       try clear p2
       try clear q104
       obtain ⟨kq, x38_4, rfl, HA, HJ4, BK105, HB⟩ := hcut
       cases kq with
       | zero => exact absurd HA.out (by simp [spec_ChainFault.j1])
       | succ kj4 =>
        have H := HA.out
        clear HA
        simp only [spec_ChainFault.j1] at H
        by_cases c19 : x38_4 = true
        ·subst c19
         have H1 : (some 3) = some r := by rw [if_pos rfl] at H; exact H
         clear H
         have H := H1
         clear H1
         obtain rfl := Option.some.inj H
         go_wp2
         repeat (go_quiet (fail); try go_wp2)
         go_ret
         exact ⟨by first | rfl | (simp [errW_none, errW_some] <;> rfl) | (simp [*, errW_none, errW_some] <;> rfl), by repeat (first | (with_reducible first | exact HB.out | apply below_alloc | apply pw_below_drewN | apply below_drew1 | refine below_set ?_ GE105.out) | exact HB.out)⟩
        ·replace c19 := Bool.eq_false_iff.mpr c19
         subst c19
         have H1 : (if ((rd_T58 l0 x3_1).f2) = true then (if ((rd_T58 l0 x3_1).f3) = 0 then (if ((rd_T58 l0 x3_1).f1) = 0 then (if x3_1 > 0 then (some 1) else (spec_ChainFault.l0 kj4 l0 (wrap64 (x3_1 + 1)))) else (if x3_1 > 0 then (if 0 ≤ (wrap64 (x3_1 - 1)) then (if (wrap64 (x3_1 - 1)) < (l0.length : Int) then (if ((rd_T58 l0 (wrap64 (x3_1 - 1))).f1) = 0 then (spec_ChainFault.l0 kj4 l0 (wrap64 (x3_1 + 1))) else (if ((rd_T58 l0 x3_1).f1) ≥ ((rd_T58 l0 (wrap64 (x3_1 - 1))).f1) then (some 1) else (spec_ChainFault.l0 kj4 l0 (wrap64 (x3_1 + 1))))) else (none)) else (none)) else (spec_ChainFault.l0 kj4 l0 (wrap64 (x3_1 + 1))))) else (some 1)) else (if ((rd_T58 l0 x3_1).f1) = 0 then (if x3_1 > 0 then (some 1) else (spec_ChainFault.l0 kj4 l0 (wrap64 (x3_1 + 1)))) else (if x3_1 > 0 then (if 0 ≤ (wrap64 (x3_1 - 1)) then (if (wrap64 (x3_1 - 1)) < (l0.length : Int) then (if ((rd_T58 l0 (wrap64 (x3_1 - 1))).f1) = 0 then (spec_ChainFault.l0 kj4 l0 (wrap64 (x3_1 + 1))) else (if ((rd_T58 l0 x3_1).f1) ≥ ((rd_T58 l0 (wrap64 (x3_1 - 1))).f1) then (some 1) else (spec_ChainFault.l0 kj4 l0 (wrap64 (x3_1 + 1))))) else (none)) else (none)) else (spec_ChainFault.l0 kj4 l0 (wrap64 (x3_1 + 1)))))) = some r := by rw [if_neg (show ¬ (false = true) by decide)] at H; exact H
         clear H
         have H := H1
         clear H1
         by_cases c20 : ((rd_T58 l0 x3_1).f2) = true
         ·rw [if_pos c20] at H
          have c20b0 : ((rd_T58 l0 x3_1).f2) = true := c20
          clear c20
          by_cases c21 : ((rd_T58 l0 x3_1).f3) = 0
          ·rw [if_pos c21] at H
           have c21b0 : (((rd_T58 l0 x3_1).f3) == 0) = true := beq_iff_eq.mpr c21
           have c21b1 : (((rd_T58 l0 x3_1).f3) != 0) = false := bne_eq_false_iff_eq.mpr c21
           clear c21
           by_cases c22 : ((rd_T58 l0 x3_1).f1) = 0
           ·rw [if_pos c22] at H
            have c22b0 : (((rd_T58 l0 x3_1).f1) == 0) = true := beq_iff_eq.mpr c22
            have c22b1 : (((rd_T58 l0 x3_1).f1) != 0) = false := bne_eq_false_iff_eq.mpr c22
            clear c22
            by_cases c23 : x3_1 > 0
            ·rw [if_pos c23] at H
             have c23b0 : decide (0 < x3_1) = true := decide_eq_true c23
             clear c23
             obtain rfl := Option.some.inj H
             have hcz24_0 : wc.cell? ⟨gb105, 0, none⟩ = some (.int .i64 ((rd_T58 l0 x3_1).f0)) := (blk_cell BK105.out 0).trans rfl
             have hcz24_1 : wc.cell? ⟨gb105, 1, none⟩ = some (.int .i64 ((rd_T58 l0 x3_1).f1)) := (blk_cell BK105.out 1).trans rfl
             have hcz24_2 : wc.cell? ⟨gb105, 2, none⟩ = some (.bool ((rd_T58 l0 x3_1).f2)) := (blk_cell BK105.out 2).trans rfl
             have hcz24_3 : wc.cell? ⟨gb105, 3, none⟩ = some (.int .i64 ((rd_T58 l0 x3_1).f3)) := (blk_cell BK105.out 3).trans rfl
             have hfz24_0 := blk_frozen BK105.out 0
             have hfz24_1 := blk_frozen BK105.out 1
             have hfz24_2 := blk_frozen BK105.out 2
             have hfz24_3 := blk_frozen BK105.out 3
             go_wp2
             repeat (go_quiet (fail); try go_wp2)
             go_ret
             exact ⟨by first | rfl | (simp [errW_none, errW_some] <;> rfl) | (simp [*, errW_none, errW_some] <;> rfl), by repeat (first | (with_reducible first | exact HB.out | apply below_alloc | apply pw_below_drewN | apply below_drew1 | refine below_set ?_ GE105.out) | exact HB.out)⟩
            ·rw [if_neg c23] at H
             have c23b0 : decide (0 < x3_1) = false := decide_eq_false c23
             clear c23
             have H' := Aside0.mk H
             clear H
             have hcz25_0 : wc.cell? ⟨gb105, 0, none⟩ = some (.int .i64 ((rd_T58 l0 x3_1).f0)) := (blk_cell BK105.out 0).trans rfl
             have hcz25_1 : wc.cell? ⟨gb105, 1, none⟩ = some (.int .i64 ((rd_T58 l0 x3_1).f1)) := (blk_cell BK105.out 1).trans rfl
             have hcz25_2 : wc.cell? ⟨gb105, 2, none⟩ = some (.bool ((rd_T58 l0 x3_1).f2)) := (blk_cell BK105.out 2).trans rfl
             have hcz25_3 : wc.cell? ⟨gb105, 3, none⟩ = some (.int .i64 ((rd_T58 l0 x3_1).f3)) := (blk_cell BK105.out 3).trans rfl
             have hfz25_0 := blk_frozen BK105.out 0
             have hfz25_1 := blk_frozen BK105.out 1
             have hfz25_2 := blk_frozen BK105.out 2
             have hfz25_3 := blk_frozen BK105.out 3
             go_wp2
             repeat (go_quiet (fail); try go_wp2)
             go_roundg kj4
             case measure => have := HK1.out; have := HJ4.out; omega
             case rel => exact ⟨(wrap64 (x3_1 + 1)), (by first | rfl | (simp; done) | (simp [*]; done)), H', ⟨by have := HK1.out; have := HJ4.out; omega⟩, ⟨by repeat (first | (with_reducible first | exact HB.out | apply below_alloc | apply pw_below_drewN | apply below_drew1 | refine below_set ?_ GE105.out) | exact HB.out)⟩⟩
           ·rw [if_neg c22] at H
            have c22b0 : (((rd_T58 l0 x3_1).f1) == 0) = false := beq_eq_false_iff_ne.mpr c22
            have c22b1 : (((rd_T58 l0 x3_1).f1) != 0) = true := bne_iff_ne.mpr c22
            by_cases c26 : x3_1 > 0
            ·rw [if_pos c26] at H
             have c26b0 : decide (0 < x3_1) = true := decide_eq_true c26
             clear c26
             obtain ⟨ji27, hji27⟩ : ∃ j_ : Int, (wrap64 (x3_1 - 1)) = j_ := ⟨_, rfl⟩
             replace H : (if 0 ≤ (ji27) then (if (ji27) < (l0.length : Int) then (if ((rd_T58 l0 (ji27)).f1) = 0 then (spec_ChainFault.l0 kj4 l0 (wrap64 (x3_1 + 1))) else (if ((rd_T58 l0 x3_1).f1) ≥ ((rd_T58 l0 (ji27)).f1) then (some 1) else (spec_ChainFault.l0 kj4 l0 (wrap64 (x3_1 + 1))))) else (none)) else (none)) = some r := by first | (rw [hji27] at H; exact H) | (simp only [hji27] at H ⊢; exact H)
             have hji27w : (IntKind.i64.wrap (x3_1 - 1)) = ji27 := (i64_w _).trans hji27
             by_cases c28 : 0 ≤ (ji27)
             ·rw [if_pos c28] at H
              have c28b0 : decide (0 ≤ (ji27)) = true := decide_eq_true c28
              clear c28
              by_cases c29 : (ji27) < (l0.length : Int)
              ·rw [if_pos c29] at H
               have c29b0 : decide ((ji27) < (l0.length : Int)) = true := decide_eq_true c29
               clear c29
               by_cases c30 : ((rd_T58 l0 (ji27)).f1) = 0
               ·rw [if_pos c30] at H
                have c30b0 : (((rd_T58 l0 (ji27)).f1) == 0) = true := beq_iff_eq.mpr c30
                have c30b1 : (((rd_T58 l0 (ji27)).f1) != 0) = false := bne_eq_false_iff_eq.mpr c30
                clear c30
                have H' := Aside0.mk H
                clear H
                have hcz31_0 : wc.cell? ⟨gb105, 0, none⟩ = some (.int .i64 ((rd_T58 l0 x3_1).f0)) := (blk_cell BK105.out 0).trans rfl
                have hcz31_1 : wc.cell? ⟨gb105, 1, none⟩ = some (.int .i64 ((rd_T58 l0 x3_1).f1)) := (blk_cell BK105.out 1).trans rfl
                have hcz31_2 : wc.cell? ⟨gb105, 2, none⟩ = some (.bool ((rd_T58 l0 x3_1).f2)) := (blk_cell BK105.out 2).trans rfl
                have hcz31_3 : wc.cell? ⟨gb105, 3, none⟩ = some (.int .i64 ((rd_T58 l0 x3_1).f3)) := (blk_cell BK105.out 3).trans rfl
                have hfz31_0 := blk_frozen BK105.out 0
                have hfz31_1 := blk_frozen BK105.out 1
                have hfz31_2 := blk_frozen BK105.out 2
                have hfz31_3 := blk_frozen BK105.out 3
                have p110 : 0 ≤ ((ji27) : Int) := of_decide_eq_true (by first | (with_reducible assumption) | assumption)
                have q110 : (ji27) < (l0.length : Int) := of_decide_eq_true (by first | (with_reducible assumption) | assumption)
                obtain ⟨ad110, e110, hx110_0, hx110_1, hx110_2, hx110_3⟩ := at_T58 HR0.out (ji27) p110 q110
                obtain rfl : ad104 = ad110 := (by injection e110)
                replace hx110_0 := (HB.out.cell (World.block_lt_of_cell? w _ hx110_0)).trans hx110_0
                replace hx110_1 := (HB.out.cell (World.block_lt_of_cell? w _ hx110_1)).trans hx110_1
                replace hx110_2 := (HB.out.cell (World.block_lt_of_cell? w _ hx110_2)).trans hx110_2
                replace hx110_3 := (HB.out.cell (World.block_lt_of_cell? w _ hx110_3)).trans hx110_3
                replace p110 := eq_true p110
                replace q110 := eq_true q110
                go_wp2
                repeat (go_quiet (fail); try go_wp2)
                go_roundg kj4
                case measure => have := HK1.out; have := HJ4.out; omega
                case rel => exact ⟨(wrap64 (x3_1 + 1)), (by first | rfl | (simp; done) | (simp [*]; done)), H', ⟨by have := HK1.out; have := HJ4.out; omega⟩, ⟨by repeat (first | (with_reducible first | exact HB.out | apply below_alloc | apply pw_below_drewN | apply below_drew1 | refine below_set ?_ GE105.out) | exact HB.out)⟩⟩
               ·rw [if_neg c30] at H
                have c30b0 : (((rd_T58 l0 (ji27)).f1) == 0) = false := beq_eq_false_iff_ne.mpr c30
                have c30b1 : (((rd_T58 l0 (ji27)).f1) != 0) = true := bne_iff_ne.mpr c30
                by_cases c32 : ((rd_T58 l0 x3_1).f1) ≥ ((rd_T58 l0 (ji27)).f1)
                ·rw [if_pos c32] at H
                 have c32b0 : decide (((rd_T58 l0 (ji27)).f1) ≤ ((rd_T58 l0 x3_1).f1)) = true := decide_eq_true c32
                 clear c32
                 obtain rfl := Option.some.inj H
                 have hcz33_0 : wc.cell? ⟨gb105, 0, none⟩ = some (.int .i64 ((rd_T58 l0 x3_1).f0)) := (blk_cell BK105.out 0).trans rfl
                 have hcz33_1 : wc.cell? ⟨gb105, 1, none⟩ = some (.int .i64 ((rd_T58 l0 x3_1).f1)) := (blk_cell BK105.out 1).trans rfl
                 have hcz33_2 : wc.cell? ⟨gb105, 2, none⟩ = some (.bool ((rd_T58 l0 x3_1).f2)) := (blk_cell BK105.out 2).trans rfl
                 have hcz33_3 : wc.cell? ⟨gb105, 3, none⟩ = some (.int .i64 ((rd_T58 l0 x3_1).f3)) := (blk_cell BK105.out 3).trans rfl
                 have hfz33_0 := blk_frozen BK105.out 0
                 have hfz33_1 := blk_frozen BK105.out 1
                 have hfz33_2 := blk_frozen BK105.out 2
                 have hfz33_3 := blk_frozen BK105.out 3
                 have p110 : 0 ≤ ((ji27) : Int) := of_decide_eq_true (by first | (with_reducible assumption) | assumption)
                 have q110 : (ji27) < (l0.length : Int) := of_decide_eq_true (by first | (with_reducible assumption) | assumption)
                 obtain ⟨ad110, e110, hx110_0, hx110_1, hx110_2, hx110_3⟩ := at_T58 HR0.out (ji27) p110 q110
                 obtain rfl : ad104 = ad110 := (by injection e110)
                 replace hx110_0 := (HB.out.cell (World.block_lt_of_cell? w _ hx110_0)).trans hx110_0
                 replace hx110_1 := (HB.out.cell (World.block_lt_of_cell? w _ hx110_1)).trans hx110_1
                 replace hx110_2 := (HB.out.cell (World.block_lt_of_cell? w _ hx110_2)).trans hx110_2
                 replace hx110_3 := (HB.out.cell (World.block_lt_of_cell? w _ hx110_3)).trans hx110_3
                 replace p110 := eq_true p110
                 replace q110 := eq_true q110
                 have p111 : 0 ≤ ((ji27) : Int) := of_decide_eq_true (by first | (with_reducible assumption) | assumption)
                 have q111 : (ji27) < (l0.length : Int) := of_decide_eq_true (by first | (with_reducible assumption) | assumption)
                 obtain ⟨ad111, e111, hx111_0, hx111_1, hx111_2, hx111_3⟩ := at_T58 HR0.out (ji27) p111 q111
                 obtain rfl : ad104 = ad111 := (by injection e111)
                 replace hx111_0 := (HB.out.cell (World.block_lt_of_cell? w _ hx111_0)).trans hx111_0
                 replace hx111_1 := (HB.out.cell (World.block_lt_of_cell? w _ hx111_1)).trans hx111_1
                 replace hx111_2 := (HB.out.cell (World.block_lt_of_cell? w _ hx111_2)).trans hx111_2
                 replace hx111_3 := (HB.out.cell (World.block_lt_of_cell? w _ hx111_3)).trans hx111_3
                 replace p111 := eq_true p111
                 replace q111 := eq_true q111
                 go_wp2
                 repeat (go_quiet (fail); try go_wp2)
                 go_ret
                 exact ⟨by first | rfl | (simp [errW_none, errW_some] <;> rfl) | (simp only [← hji27]; first | rfl | (simp [errW_none, errW_some] <;> rfl)) | (simp [*, errW_none, errW_some] <;> rfl), by repeat (first | (with_reducible first | exact HB.out | apply below_alloc | apply pw_below_drewN | apply below_drew1 | refine below_set ?_ GE105.out) | exact HB.out)⟩
                ·rw [if_neg c32] at H
                 have c32b0 : decide (((rd_T58 l0 (ji27)).f1) ≤ ((rd_T58 l0 x3_1).f1)) = false := decide_eq_false c32
                 clear c32
                 have H' := Aside0.mk H
                 clear H
                 have hcz34_0 : wc.cell? ⟨gb105, 0, none⟩ = some (.int .i64 ((rd_T58 l0 x3_1).f0)) := (blk_cell BK105.out 0).trans rfl
                 have hcz34_1 : wc.cell? ⟨gb105, 1, none⟩ = some (.int .i64 ((rd_T58 l0 x3_1).f1)) := (blk_cell BK105.out 1).trans rfl
                 have hcz34_2 : wc.cell? ⟨gb105, 2, none⟩ = some (.bool ((rd_T58 l0 x3_1).f2)) := (blk_cell BK105.out 2).trans rfl
                 have hcz34_3 : wc.cell? ⟨gb105, 3, none⟩ = some (.int .i64 ((rd_T58 l0 x3_1).f3)) := (blk_cell BK105.out 3).trans rfl
                 have hfz34_0 := blk_frozen BK105.out 0
                 have hfz34_1 := blk_frozen BK105.out 1
                 have hfz34_2 := blk_frozen BK105.out 2
                 have hfz34_3 := blk_frozen BK105.out 3
                 have p110 : 0 ≤ ((ji27) : Int) := of_decide_eq_true (by first | (with_reducible assumption) | assumption)
                 have q110 : (ji27) < (l0.length : Int) := of_decide_eq_true (by first | (with_reducible assumption) | assumption)
                 obtain ⟨ad110, e110, hx110_0, hx110_1, hx110_2, hx110_3⟩ := at_T58 HR0.out (ji27) p110 q110
                 obtain rfl : ad104 = ad110 := (by injection e110)
                 replace hx110_0 := (HB.out.cell (World.block_lt_of_cell? w _ hx110_0)).trans hx110_0
                 replace hx110_1 := (HB.out.cell (World.block_lt_of_cell? w _ hx110_1)).trans hx110_1
                 replace hx110_2 := (HB.out.cell (World.block_lt_of_cell? w _ hx110_2)).trans hx110_2
                 replace hx110_3 := (HB.out.cell (World.block_lt_of_cell? w _ hx110_3)).trans hx110_3
                 replace p110 := eq_true p110
                 replace q110 := eq_true q110
                 have p111 : 0 ≤ ((ji27) : Int) := of_decide_eq_true (by first | (with_reducible assumption) | assumption)
                 have q111 : (ji27) < (l0.length : Int) := of_decide_eq_true (by first | (with_reducible assumption) | assumption)
                 obtain ⟨ad111, e111, hx111_0, hx111_1, hx111_2, hx111_3⟩ := at_T58 HR0.out (ji27) p111 q111
                 obtain rfl : ad104 = ad111 := (by injection e111)
                 replace hx111_0 := (HB.out.cell (World.block_lt_of_cell? w _ hx111_0)).trans hx111_0
                 replace hx111_1 := (HB.out.cell (World.block_lt_of_cell? w _ hx111_1)).trans hx111_1
                 replace hx111_2 := (HB.out.cell (World.block_lt_of_cell? w _ hx111_2)).trans hx111_2
                 replace hx111_3 := (HB.out.cell (World.block_lt_of_cell? w _ hx111_3)).trans hx111_3
                 replace p111 := eq_true p111
                 replace q111 := eq_true q111
                 go_wp2
                 repeat (go_quiet (fail); try go_wp2)
                 go_roundg kj4
                 case measure => have := HK1.out; have := HJ4.out; omega
                 case rel => exact ⟨(wrap64 (x3_1 + 1)), (by first | rfl | (simp; done) | (simp [*]; done)), H', ⟨by have := HK1.out; have := HJ4.out; omega⟩, ⟨by repeat (first | (with_reducible first | exact HB.out | apply below_alloc | apply pw_below_drewN | apply below_drew1 | refine below_set ?_ GE105.out) | exact HB.out)⟩⟩
              ·rw [if_neg c29] at H
               exact absurd H (by simp)
             ·rw [if_neg c28] at H
              exact absurd H (by simp)
            ·rw [if_neg c26] at H
             have c26b0 : decide (0 < x3_1) = false := decide_eq_false c26
             clear c26
             have H' := Aside0.mk H
             clear H
             have hcz35_0 : wc.cell? ⟨gb105, 0, none⟩ = some (.int .i64 ((rd_T58 l0 x3_1).f0)) := (blk_cell BK105.out 0).trans rfl
             have hcz35_1 : wc.cell? ⟨gb105, 1, none⟩ = some (.int .i64 ((rd_T58 l0 x3_1).f1)) := (blk_cell BK105.out 1).trans rfl
             have hcz35_2 : wc.cell? ⟨gb105, 2, none⟩ = some (.bool ((rd_T58 l0 x3_1).f2)) := (blk_cell BK105.out 2).trans rfl
             have hcz35_3 : wc.cell? ⟨gb105, 3, none⟩ = some (.int .i64 ((rd_T58 l0 x3_1).f3)) := (blk_cell BK105.out 3).trans rfl
             have hfz35_0 := blk_frozen BK105.out 0
             have hfz35_1 := blk_frozen BK105.out 1
             have hfz35_2 := blk_frozen BK105.out 2
             have hfz35_3 := blk_frozen BK105.out 3
             go_wp2
             repeat (go_quiet (fail); try go_wp2)
             go_roundg kj4
             case measure => have := HK1.out; have := HJ4.out; omega
             case rel => exact ⟨(wrap64 (x3_1 + 1)), (by first | rfl | (simp; done) | (simp [*]; done)), H', ⟨by have := HK1.out; have := HJ4.out; omega⟩, ⟨by repeat (first | (with_reducible first | exact HB.out | apply below_alloc | apply pw_below_drewN | apply below_drew1 | refine below_set ?_ GE105.out) | exact HB.out)⟩⟩
          ·rw [if_neg c21] at H
           have c21b0 : (((rd_T58 l0 x3_1).f3) == 0) = false := beq_eq_false_iff_ne.mpr c21
           have c21b1 : (((rd_T58 l0 x3_1).f3) != 0) = true := bne_iff_ne.mpr c21
           obtain rfl := Option.some.inj H
           have hcz36_0 : wc.cell? ⟨gb105, 0, none⟩ = some (.int .i64 ((rd_T58 l0 x3_1).f0)) := (blk_cell BK105.out 0).trans rfl
           have hcz36_1 : wc.cell? ⟨gb105, 1, none⟩ = some (.int .i64 ((rd_T58 l0 x3_1).f1)) := (blk_cell BK105.out 1).trans rfl
           have hcz36_2 : wc.cell? ⟨gb105, 2, none⟩ = some (.bool ((rd_T58 l0 x3_1).f2)) := (blk_cell BK105.out 2).trans rfl
           have hcz36_3 : wc.cell? ⟨gb105, 3, none⟩ = some (.int .i64 ((rd_T58 l0 x3_1).f3)) := (blk_cell BK105.out 3).trans rfl
           have hfz36_0 := blk_frozen BK105.out 0
           have hfz36_1 := blk_frozen BK105.out 1
           have hfz36_2 := blk_frozen BK105.out 2
           have hfz36_3 := blk_frozen BK105.out 3
           go_wp2
           repeat (go_quiet (fail); try go_wp2)
           go_ret
           exact ⟨by first | rfl | (simp [errW_none, errW_some] <;> rfl) | (simp [*, errW_none, errW_some] <;> rfl), by repeat (first | (with_reducible first | exact HB.out | apply below_alloc | apply pw_below_drewN | apply below_drew1 | refine below_set ?_ GE105.out) | exact HB.out)⟩
         ·rw [if_neg c20] at H
          have c20b0 : ((rd_T58 l0 x3_1).f2) = false := by simpa using c20
          clear c20
          by_cases c37 : ((rd_T58 l0 x3_1).f1) = 0
          ·rw [if_pos c37] at H
           have c37b0 : (((rd_T58 l0 x3_1).f1) == 0) = true := beq_iff_eq.mpr c37
           have c37b1 : (((rd_T58 l0 x3_1).f1) != 0) = false := bne_eq_false_iff_eq.mpr c37
           clear c37
           by_cases c38 : x3_1 > 0
           ·rw [if_pos c38] at H
            have c38b0 : decide (0 < x3_1) = true := decide_eq_true c38
            clear c38
            obtain rfl := Option.some.inj H
            have hcz39_0 : wc.cell? ⟨gb105, 0, none⟩ = some (.int .i64 ((rd_T58 l0 x3_1).f0)) := (blk_cell BK105.out 0).trans rfl
            have hcz39_1 : wc.cell? ⟨gb105, 1, none⟩ = some (.int .i64 ((rd_T58 l0 x3_1).f1)) := (blk_cell BK105.out 1).trans rfl
            have hcz39_2 : wc.cell? ⟨gb105, 2, none⟩ = some (.bool ((rd_T58 l0 x3_1).f2)) := (blk_cell BK105.out 2).trans rfl
            have hcz39_3 : wc.cell? ⟨gb105, 3, none⟩ = some (.int .i64 ((rd_T58 l0 x3_1).f3)) := (blk_cell BK105.out 3).trans rfl
            have hfz39_0 := blk_frozen BK105.out 0
            have hfz39_1 := blk_frozen BK105.out 1
            have hfz39_2 := blk_frozen BK105.out 2
            have hfz39_3 := blk_frozen BK105.out 3
            go_wp2
            repeat (go_quiet (fail); try go_wp2)
            go_ret
            exact ⟨by first | rfl | (simp [errW_none, errW_some] <;> rfl) | (simp [*, errW_none, errW_some] <;> rfl), by repeat (first | (with_reducible first | exact HB.out | apply below_alloc | apply pw_below_drewN | apply below_drew1 | refine below_set ?_ GE105.out) | exact HB.out)⟩
           ·rw [if_neg c38] at H
            have c38b0 : decide (0 < x3_1) = false := decide_eq_false c38
            clear c38
            have H' := Aside0.mk H
            clear H
            have hcz40_0 : wc.cell? ⟨gb105, 0, none⟩ = some (.int .i64 ((rd_T58 l0 x3_1).f0)) := (blk_cell BK105.out 0).trans rfl
            have hcz40_1 : wc.cell? ⟨gb105, 1, none⟩ = some (.int .i64 ((rd_T58 l0 x3_1).f1)) := (blk_cell BK105.out 1).trans rfl
            have hcz40_2 : wc.cell? ⟨gb105, 2, none⟩ = some (.bool ((rd_T58 l0 x3_1).f2)) := (blk_cell BK105.out 2).trans rfl
            have hcz40_3 : wc.cell? ⟨gb105, 3, none⟩ = some (.int .i64 ((rd_T58 l0 x3_1).f3)) := (blk_cell BK105.out 3).trans rfl
            have hfz40_0 := blk_frozen BK105.out 0
            have hfz40_1 := blk_frozen BK105.out 1
            have hfz40_2 := blk_frozen BK105.out 2
            have hfz40_3 := blk_frozen BK105.out 3
            go_wp2
            repeat (go_quiet (fail); try go_wp2)
            go_roundg kj4
            case measure => have := HK1.out; have := HJ4.out; omega
            case rel => exact ⟨(wrap64 (x3_1 + 1)), (by first | rfl | (simp; done) | (simp [*]; done)), H', ⟨by have := HK1.out; have := HJ4.out; omega⟩, ⟨by repeat (first | (with_reducible first | exact HB.out | apply below_alloc | apply pw_below_drewN | apply below_drew1 | refine below_set ?_ GE105.out) | exact HB.out)⟩⟩
          ·rw [if_neg c37] at H
           have c37b0 : (((rd_T58 l0 x3_1).f1) == 0) = false := beq_eq_false_iff_ne.mpr c37
           have c37b1 : (((rd_T58 l0 x3_1).f1) != 0) = true := bne_iff_ne.mpr c37
           by_cases c41 : x3_1 > 0
           ·rw [if_pos c41] at H
            have c41b0 : decide (0 < x3_1) = true := decide_eq_true c41
            clear c41
            obtain ⟨ji42, hji42⟩ : ∃ j_ : Int, (wrap64 (x3_1 - 1)) = j_ := ⟨_, rfl⟩
            replace H : (if 0 ≤ (ji42) then (if (ji42) < (l0.length : Int) then (if ((rd_T58 l0 (ji42)).f1) = 0 then (spec_ChainFault.l0 kj4 l0 (wrap64 (x3_1 + 1))) else (if ((rd_T58 l0 x3_1).f1) ≥ ((rd_T58 l0 (ji42)).f1) then (some 1) else (spec_ChainFault.l0 kj4 l0 (wrap64 (x3_1 + 1))))) else (none)) else (none)) = some r := by first | (rw [hji42] at H; exact H) | (simp only [hji42] at H ⊢; exact H)
            have hji42w : (IntKind.i64.wrap (x3_1 - 1)) = ji42 := (i64_w _).trans hji42
            by_cases c43 : 0 ≤ (ji42)
            ·rw [if_pos c43] at H
             have c43b0 : decide (0 ≤ (ji42)) = true := decide_eq_true c43
             clear c43
             by_cases c44 : (ji42) < (l0.length : Int)
             ·rw [if_pos c44] at H
              have c44b0 : decide ((ji42) < (l0.length : Int)) = true := decide_eq_true c44
              clear c44
              by_cases c45 : ((rd_T58 l0 (ji42)).f1) = 0
              ·rw [if_pos c45] at H
               have c45b0 : (((rd_T58 l0 (ji42)).f1) == 0) = true := beq_iff_eq.mpr c45
               have c45b1 : (((rd_T58 l0 (ji42)).f1) != 0) = false := bne_eq_false_iff_eq.mpr c45
               clear c45
               have H' := Aside0.mk H
               clear H
               have hcz46_0 : wc.cell? ⟨gb105, 0, none⟩ = some (.int .i64 ((rd_T58 l0 x3_1).f0)) := (blk_cell BK105.out 0).trans rfl
               have hcz46_1 : wc.cell? ⟨gb105, 1, none⟩ = some (.int .i64 ((rd_T58 l0 x3_1).f1)) := (blk_cell BK105.out 1).trans rfl
               have hcz46_2 : wc.cell? ⟨gb105, 2, none⟩ = some (.bool ((rd_T58 l0 x3_1).f2)) := (blk_cell BK105.out 2).trans rfl
               have hcz46_3 : wc.cell? ⟨gb105, 3, none⟩ = some (.int .i64 ((rd_T58 l0 x3_1).f3)) := (blk_cell BK105.out 3).trans rfl
               have hfz46_0 := blk_frozen BK105.out 0
               have hfz46_1 := blk_frozen BK105.out 1
               have hfz46_2 := blk_frozen BK105.out 2
               have hfz46_3 := blk_frozen BK105.out 3
               have p112 : 0 ≤ ((ji42) : Int) := of_decide_eq_true (by first | (with_reducible assumption) | assumption)
               have q112 : (ji42) < (l0.length : Int) := of_decide_eq_true (by first | (with_reducible assumption) | assumption)
               obtain ⟨ad112, e112, hx112_0, hx112_1, hx112_2, hx112_3⟩ := at_T58 HR0.out (ji42) p112 q112
               obtain rfl : ad104 = ad112 := (by injection e112)
               replace hx112_0 := (HB.out.cell (World.block_lt_of_cell? w _ hx112_0)).trans hx112_0
               replace hx112_1 := (HB.out.cell (World.block_lt_of_cell? w _ hx112_1)).trans hx112_1
               replace hx112_2 := (HB.out.cell (World.block_lt_of_cell? w _ hx112_2)).trans hx112_2
               replace hx112_3 := (HB.out.cell (World.block_lt_of_cell? w _ hx112_3)).trans hx112_3
               replace p112 := eq_true p112
               replace q112 := eq_true q112
               go_wp2
               repeat (go_quiet (fail); try go_wp2)
               go_roundg kj4
               case measure => have := HK1.out; have := HJ4.out; omega
               case rel => exact ⟨(wrap64 (x3_1 + 1)), (by first | rfl | (simp; done) | (simp [*]; done)), H', ⟨by have := HK1.out; have := HJ4.out; omega⟩, ⟨by repeat (first | (with_reducible first | exact HB.out | apply below_alloc | apply pw_below_drewN | apply below_drew1 | refine below_set ?_ GE105.out) | exact HB.out)⟩⟩
              ·rw [if_neg c45] at H
               have c45b0 : (((rd_T58 l0 (ji42)).f1) == 0) = false := beq_eq_false_iff_ne.mpr c45
               have c45b1 : (((rd_T58 l0 (ji42)).f1) != 0) = true := bne_iff_ne.mpr c45
               by_cases c47 : ((rd_T58 l0 x3_1).f1) ≥ ((rd_T58 l0 (ji42)).f1)
               ·rw [if_pos c47] at H
                have c47b0 : decide (((rd_T58 l0 (ji42)).f1) ≤ ((rd_T58 l0 x3_1).f1)) = true := decide_eq_true c47
                clear c47
                obtain rfl := Option.some.inj H
                have hcz48_0 : wc.cell? ⟨gb105, 0, none⟩ = some (.int .i64 ((rd_T58 l0 x3_1).f0)) := (blk_cell BK105.out 0).trans rfl
                have hcz48_1 : wc.cell? ⟨gb105, 1, none⟩ = some (.int .i64 ((rd_T58 l0 x3_1).f1)) := (blk_cell BK105.out 1).trans rfl
                have hcz48_2 : wc.cell? ⟨gb105, 2, none⟩ = some (.bool ((rd_T58 l0 x3_1).f2)) := (blk_cell BK105.out 2).trans rfl
                have hcz48_3 : wc.cell? ⟨gb105, 3, none⟩ = some (.int .i64 ((rd_T58 l0 x3_1).f3)) := (blk_cell BK105.out 3).trans rfl
                have hfz48_0 := blk_frozen BK105.out 0
                have hfz48_1 := blk_frozen BK105.out 1
                have hfz48_2 := blk_frozen BK105.out 2
                have hfz48_3 := blk_frozen BK105.out 3
                have p112 : 0 ≤ ((ji42) : Int) := of_decide_eq_true (by first | (with_reducible assumption) | assumption)
                have q112 : (ji42) < (l0.length : Int) := of_decide_eq_true (by first | (with_reducible assumption) | assumption)
                obtain ⟨ad112, e112, hx112_0, hx112_1, hx112_2, hx112_3⟩ := at_T58 HR0.out (ji42) p112 q112
                obtain rfl : ad104 = ad112 := (by injection e112)
                replace hx112_0 := (HB.out.cell (World.block_lt_of_cell? w _ hx112_0)).trans hx112_0
                replace hx112_1 := (HB.out.cell (World.block_lt_of_cell? w _ hx112_1)).trans hx112_1
                replace hx112_2 := (HB.out.cell (World.block_lt_of_cell? w _ hx112_2)).trans hx112_2
                replace hx112_3 := (HB.out.cell (World.block_lt_of_cell? w _ hx112_3)).trans hx112_3
                replace p112 := eq_true p112
                replace q112 := eq_true q112
                have p113 : 0 ≤ ((ji42) : Int) := of_decide_eq_true (by first | (with_reducible assumption) | assumption)
                have q113 : (ji42) < (l0.length : Int) := of_decide_eq_true (by first | (with_reducible assumption) | assumption)
                obtain ⟨ad113, e113, hx113_0, hx113_1, hx113_2, hx113_3⟩ := at_T58 HR0.out (ji42) p113 q113
                obtain rfl : ad104 = ad113 := (by injection e113)
                replace hx113_0 := (HB.out.cell (World.block_lt_of_cell? w _ hx113_0)).trans hx113_0
                replace hx113_1 := (HB.out.cell (World.block_lt_of_cell? w _ hx113_1)).trans hx113_1
                replace hx113_2 := (HB.out.cell (World.block_lt_of_cell? w _ hx113_2)).trans hx113_2
                replace hx113_3 := (HB.out.cell (World.block_lt_of_cell? w _ hx113_3)).trans hx113_3
                replace p113 := eq_true p113
                replace q113 := eq_true q113
                go_wp2
                repeat (go_quiet (fail); try go_wp2)
                go_ret
                exact ⟨by first | rfl | (simp [errW_none, errW_some] <;> rfl) | (simp only [← hji42]; first | rfl | (simp [errW_none, errW_some] <;> rfl)) | (simp [*, errW_none, errW_some] <;> rfl), by repeat (first | (with_reducible first | exact HB.out | apply below_alloc | apply pw_below_drewN | apply below_drew1 | refine below_set ?_ GE105.out) | exact HB.out)⟩
               ·rw [if_neg c47] at H
                have c47b0 : decide (((rd_T58 l0 (ji42)).f1) ≤ ((rd_T58 l0 x3_1).f1)) = false := decide_eq_false c47
                clear c47
                have H' := Aside0.mk H
                clear H
                have hcz49_0 : wc.cell? ⟨gb105, 0, none⟩ = some (.int .i64 ((rd_T58 l0 x3_1).f0)) := (blk_cell BK105.out 0).trans rfl
                have hcz49_1 : wc.cell? ⟨gb105, 1, none⟩ = some (.int .i64 ((rd_T58 l0 x3_1).f1)) := (blk_cell BK105.out 1).trans rfl
                have hcz49_2 : wc.cell? ⟨gb105, 2, none⟩ = some (.bool ((rd_T58 l0 x3_1).f2)) := (blk_cell BK105.out 2).trans rfl
                have hcz49_3 : wc.cell? ⟨gb105, 3, none⟩ = some (.int .i64 ((rd_T58 l0 x3_1).f3)) := (blk_cell BK105.out 3).trans rfl
                have hfz49_0 := blk_frozen BK105.out 0
                have hfz49_1 := blk_frozen BK105.out 1
                have hfz49_2 := blk_frozen BK105.out 2
                have hfz49_3 := blk_frozen BK105.out 3
                have p112 : 0 ≤ ((ji42) : Int) := of_decide_eq_true (by first | (with_reducible assumption) | assumption)
                have q112 : (ji42) < (l0.length : Int) := of_decide_eq_true (by first | (with_reducible assumption) | assumption)
                obtain ⟨ad112, e112, hx112_0, hx112_1, hx112_2, hx112_3⟩ := at_T58 HR0.out (ji42) p112 q112
                obtain rfl : ad104 = ad112 := (by injection e112)
                replace hx112_0 := (HB.out.cell (World.block_lt_of_cell? w _ hx112_0)).trans hx112_0
                replace hx112_1 := (HB.out.cell (World.block_lt_of_cell? w _ hx112_1)).trans hx112_1
                replace hx112_2 := (HB.out.cell (World.block_lt_of_cell? w _ hx112_2)).trans hx112_2
                replace hx112_3 := (HB.out.cell (World.block_lt_of_cell? w _ hx112_3)).trans hx112_3
                replace p112 := eq_true p112
                replace q112 := eq_true q112
                have p113 : 0 ≤ ((ji42) : Int) := of_decide_eq_true (by first | (with_reducible assumption) | assumption)
                have q113 : (ji42) < (l0.length : Int) := of_decide_eq_true (by first | (with_reducible assumption) | assumption)
                obtain ⟨ad113, e113, hx113_0, hx113_1, hx113_2, hx113_3⟩ := at_T58 HR0.out (ji42) p113 q113
                obtain rfl : ad104 = ad113 := (by injection e113)
                replace hx113_0 := (HB.out.cell (World.block_lt_of_cell? w _ hx113_0)).trans hx113_0
                replace hx113_1 := (HB.out.cell (World.block_lt_of_cell? w _ hx113_1)).trans hx113_1
                replace hx113_2 := (HB.out.cell (World.block_lt_of_cell? w _ hx113_2)).trans hx113_2
                replace hx113_3 := (HB.out.cell (World.block_lt_of_cell? w _ hx113_3)).trans hx113_3
                replace p113 := eq_true p113
                replace q113 := eq_true q113
                go_wp2
                repeat (go_quiet (fail); try go_wp2)
                go_roundg kj4
                case measure => have := HK1.out; have := HJ4.out; omega
                case rel => exact ⟨(wrap64 (x3_1 + 1)), (by first | rfl | (simp; done) | (simp [*]; done)), H', ⟨by have := HK1.out; have := HJ4.out; omega⟩, ⟨by repeat (first | (with_reducible first | exact HB.out | apply below_alloc | apply pw_below_drewN | apply below_drew1 | refine below_set ?_ GE105.out) | exact HB.out)⟩⟩
             ·rw [if_neg c44] at H
              exact absurd H (by simp)
            ·rw [if_neg c43] at H
             exact absurd H (by simp)
           ·rw [if_neg c41] at H
            have c41b0 : decide (0 < x3_1) = false := decide_eq_false c41
            clear c41
            have H' := Aside0.mk H
            clear H
            have hcz50_0 : wc.cell? ⟨gb105, 0, none⟩ = some (.int .i64 ((rd_T58 l0 x3_1).f0)) := (blk_cell BK105.out 0).trans rfl
            have hcz50_1 : wc.cell? ⟨gb105, 1, none⟩ = some (.int .i64 ((rd_T58 l0 x3_1).f1)) := (blk_cell BK105.out 1).trans rfl
            have hcz50_2 : wc.cell? ⟨gb105, 2, none⟩ = some (.bool ((rd_T58 l0 x3_1).f2)) := (blk_cell BK105.out 2).trans rfl
            have hcz50_3 : wc.cell? ⟨gb105, 3, none⟩ = some (.int .i64 ((rd_T58 l0 x3_1).f3)) := (blk_cell BK105.out 3).trans rfl
            have hfz50_0 := blk_frozen BK105.out 0
            have hfz50_1 := blk_frozen BK105.out 1
            have hfz50_2 := blk_frozen BK105.out 2
            have hfz50_3 := blk_frozen BK105.out 3
            go_wp2
            repeat (go_quiet (fail); try go_wp2)
            go_roundg kj4
            case measure => have := HK1.out; have := HJ4.out; omega
            case rel => exact ⟨(wrap64 (x3_1 + 1)), (by first | rfl | (simp; done) | (simp [*]; done)), H', ⟨by have := HK1.out; have := HJ4.out; omega⟩, ⟨by repeat (first | (with_reducible first | exact HB.out | apply below_alloc | apply pw_below_drewN | apply below_drew1 | refine below_set ?_ GE105.out) | exact HB.out)⟩⟩
     ·rw [if_neg c4] at H
      exact absurd H (by simp)
    ·rw [if_neg c3] at H
     have c3b0 : decide (x3_1 < (l0.length : Int)) = false := decide_eq_false c3
     clear c3
     obtain rfl := Option.some.inj H
     go_wp2
     repeat (go_quiet (fail); try go_wp2)
     go_ret
     exact ⟨by first | rfl | (simp [errW_none, errW_some] <;> rfl) | (simp [*, errW_none, errW_some] <;> rfl), by repeat (first | (with_reducible first | exact HB.out | apply below_alloc | apply pw_below_drewN | apply below_drew1) | exact HB.out)⟩

/-! ### impl_within: function 63 -/
set_option maxHeartbeats 8000000 in
set_option maxRecDepth 100000 in
theorem impl_within.calls (a0 : Int) (a1 : Int) (a2 : Int) (r : Bool) (w : World) (h : impl_within.f a0 a1 a2 = some r) :
  Calls Try.prog 63 #[.int .i64 a0, .int .i64 a1, .int .i64 a2] w fun e w' => e = .returned (.bool r) ∧ Drawn0 w w' := by
 have H : (if a1 ≤ a0 then (some (decide (a0 ≤ a2))) else (some false)) = some r := h
 clear h
 by_cases c4 : a1 ≤ a0
 ·rw [if_pos c4] at H
  have c4b0 : decide (a1 ≤ a0) = true := decide_eq_true c4
  clear c4
  obtain rfl := Option.some.inj H
  go_enter Try.func63, Try.ntmps63
  go_wp2
  go_ret
  exact ⟨by first | rfl | (simp; done) | (simp [*]; done), by repeat (first | exact Drawn0.refl _ | apply Drawn0.step)⟩
 ·rw [if_neg c4] at H
  have c4b0 : decide (a1 ≤ a0) = false := decide_eq_false c4
  clear c4
  obtain rfl := Option.some.inj H
  go_enter Try.func63, Try.ntmps63
  go_wp2
  go_ret
  exact ⟨by first | rfl | (simp; done) | (simp [*]; done), by repeat (first | exact Drawn0.refl _ | apply Drawn0.step)⟩

/-! ### impl_isTxn: function 45 -/
set_option maxHeartbeats 8000000 in
set_option maxRecDepth 100000 in
theorem impl_isTxn.calls (a0 : Int) (r : Bool) (w : World) (h : impl_isTxn.f a0 = some r) :
  Calls Try.prog 45 #[.int .i64 a0] w fun e w' => e = .returned (.bool r) ∧ Drawn0 w w' := by
 have H : ((impl_within.f a0 1 999).bind fun t126 => (some t126)) = some r := h
 clear h
 replace H := Option.bind_eq_some_iff.mp H
 obtain ⟨t126, A20, H⟩ := H
 replace H : (some t126) = some r := H
 have A2 := Aside0.mk A20
 clear A20
 obtain rfl := Option.some.inj H
 go_enter Try.func45, Try.ntmps45
 go_wp2_with (first | ((with_reducible refine gate_callee (f := 63) rfl ?_); refine goesL_ (some 4) rfl rfl Try.func63 (by kernel_rfl) rfl #[.int .i64 a0, .int .i64 1, .int .i64 999] rfl (by (try simp only [List.map_toArray, List.map_cons, List.map_nil]); first | done | rfl | (simp only [List.length_drop, List.length_take]; rfl)) ?_; (with_reducible refine (impl_within.calls a0 1 999 t126 _ A2.out).mono ?_); rintro e w' ⟨rfl, ⟨nd, rfl⟩⟩; refine ⟨_, rfl, ?_⟩))
 go_ret
 exact ⟨by first | rfl | (simp; done) | (simp [*]; done), by repeat (first | exact Drawn0.refl _ | apply Drawn0.step)⟩

/-! ### impl_isLsn: function 46 -/
set_option maxHeartbeats 8000000 in
set_option maxRecDepth 100000 in
theorem impl_isLsn.calls (a0 : Int) (r : Bool) (w : World) (h : impl_isLsn.f a0 = some r) :
  Calls Try.prog 46 #[.int .i64 a0] w fun e w' => e = .returned (.bool r) ∧ Drawn0 w w' := by
 have H : ((impl_within.f a0 0 1000000).bind fun t127 => (some t127)) = some r := h
 clear h
 replace H := Option.bind_eq_some_iff.mp H
 obtain ⟨t127, A20, H⟩ := H
 replace H : (some t127) = some r := H
 have A2 := Aside0.mk A20
 clear A20
 obtain rfl := Option.some.inj H
 go_enter Try.func46, Try.ntmps46
 go_wp2_with (first | ((with_reducible refine gate_callee (f := 63) rfl ?_); refine goesL_ (some 4) rfl rfl Try.func63 (by kernel_rfl) rfl #[.int .i64 a0, .int .i64 0, .int .i64 1000000] rfl (by (try simp only [List.map_toArray, List.map_cons, List.map_nil]); first | done | rfl | (simp only [List.length_drop, List.length_take]; rfl)) ?_; (with_reducible refine (impl_within.calls a0 0 1000000 t127 _ A2.out).mono ?_); rintro e w' ⟨rfl, ⟨nd, rfl⟩⟩; refine ⟨_, rfl, ?_⟩))
 go_ret
 exact ⟨by first | rfl | (simp; done) | (simp [*]; done), by repeat (first | exact Drawn0.refl _ | apply Drawn0.step)⟩

/-! ### impl_isValue: function 47 -/
set_option maxHeartbeats 8000000 in
set_option maxRecDepth 100000 in
theorem impl_isValue.calls (a0 : Int) (r : Bool) (w : World) (h : impl_isValue.f a0 = some r) :
  Calls Try.prog 47 #[.int .i64 a0] w fun e w' => e = .returned (.bool r) ∧ Drawn0 w w' := by
 have H : ((impl_within.f a0 0 9999).bind fun t128 => (some t128)) = some r := h
 clear h
 replace H := Option.bind_eq_some_iff.mp H
 obtain ⟨t128, A20, H⟩ := H
 replace H : (some t128) = some r := H
 have A2 := Aside0.mk A20
 clear A20
 obtain rfl := Option.some.inj H
 go_enter Try.func47, Try.ntmps47
 go_wp2_with (first | ((with_reducible refine gate_callee (f := 63) rfl ?_); refine goesL_ (some 4) rfl rfl Try.func63 (by kernel_rfl) rfl #[.int .i64 a0, .int .i64 0, .int .i64 9999] rfl (by (try simp only [List.map_toArray, List.map_cons, List.map_nil]); first | done | rfl | (simp only [List.length_drop, List.length_take]; rfl)) ?_; (with_reducible refine (impl_within.calls a0 0 9999 t128 _ A2.out).mono ?_); rintro e w' ⟨rfl, ⟨nd, rfl⟩⟩; refine ⟨_, rfl, ?_⟩))
 go_ret
 exact ⟨by first | rfl | (simp; done) | (simp [*]; done), by repeat (first | exact Drawn0.refl _ | apply Drawn0.step)⟩

end Go.Proofs.Ytlabafjldndcgaa.P
