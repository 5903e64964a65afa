import Derived.Test.YthagppmaofcllaaZz
import Derived.Test.YthagppmaofcllaaP0
import Derived.Test.YthagppmaofcllaaPDcg0
import Derived.Test.YthagppmaofcllaaWRepsOne
import Derived.Test.YthagppmaofcllaaLv
namespace Go.Proofs.Ythagppmaofcllaa.P
open Go.RowKit Go.Proofs.YthagppmaofcllaaW.PrintWords Go.Proofs.YthagppmaofcllaaW.PrintLast Go.Proofs.YthagppmaofcllaaW.PrintMore
attribute [local go_sem] max2_int min2_int max_two min_two max_three min_three max_four min_four   -- for this text's walks alone
set_option linter.unusedVariables false
set_option linter.unusedSimpArgs false
theorem yj0 {p : Prop} (h : p := by repeat (first | (with_reducible first | exact HB.out | apply Qc | apply Qa | apply Qb | refine Qd ?_ (IsS101.ge HI0.out) | refine Qd ?_ GE512.out | refine Qd ?_ GE517.out) | exact HB.out)) : p := h
theorem yj1 {p : Prop} (h : p := by repeat (first | (with_reducible first | exact HK.out | apply Qau.set_ | apply keep_drewN | apply keep_drew | apply keep_alloc | refine keep_far ?_ GW512.out _ | refine keep_far ?_ GW517.out _) | exact HK.out)) : p := h
theorem yj2 {p : Prop} (h : p := by repeat (first | (with_reducible first | exact HK.out | apply Qau.set_ | apply keep_drewN | apply keep_drew | apply keep_alloc | refine keep_far ?_ GW512.out _) | exact HK.out)) : p := h
theorem yj3 {p : Prop} (h : p := by refine zQ ?_; refine Qk (cs := #[.int .i64 (wrap64 (1 + t513)), .int .i64 (wrap64 (1 + t515)), .int .i64 0, .bool false, .int .i64 0, .bool false, .int .i64 0, .int .i64 0]) ?_ 7 _ rfl; refine zQ ?_; refine Qk (cs := #[.int .i64 (wrap64 (1 + t513)), .int .i64 (wrap64 (1 + t515)), .int .i64 0, .bool false, .int .i64 0, .bool false, .int .i64 0, .int .i64 0]) ?_ 6 _ rfl; refine zQ ?_; refine Qk (cs := #[.int .i64 (wrap64 (1 + t513)), .int .i64 (wrap64 (1 + t515)), .int .i64 0, .bool false, .int .i64 0, .bool false, .int .i64 0, .int .i64 0]) ?_ 5 _ rfl; refine zQ ?_; refine Qk (cs := #[.int .i64 (wrap64 (1 + t513)), .int .i64 (wrap64 (1 + t515)), .int .i64 0, .bool false, .int .i64 0, .bool false, .int .i64 0, .int .i64 0]) ?_ 4 _ rfl; refine zQ ?_; refine Qk (cs := #[.int .i64 (wrap64 (1 + t513)), .int .i64 (wrap64 (1 + t515)), .int .i64 0, .bool false, .int .i64 0, .bool false, .int .i64 0, .int .i64 0]) ?_ 3 _ rfl; refine zQ ?_; refine Qk (cs := #[.int .i64 (wrap64 (1 + t513)), .int .i64 (wrap64 (1 + t515)), .int .i64 0, .bool false, .int .i64 0, .bool false, .int .i64 0, .int .i64 0]) ?_ 2 _ rfl; refine zQ ?_; refine Qk (cs := #[.int .i64 (wrap64 (1 + t513)), .int .i64 0, .int .i64 0, .bool false, .int .i64 0, .bool false, .int .i64 0, .int .i64 0]) ?_ 1 _ rfl; refine zQ ?_; refine Qk (cs := #[.int .i64 0, .int .i64 0, .int .i64 0, .bool false, .int .i64 0, .bool false, .int .i64 0, .int .i64 0]) ?_ 0 _ rfl; refine zQ ?_; exact BK517.out) : p := h
theorem yj4 {p : Prop} (h : p := by refine zQ ?_; refine Qk (cs := #[.int .i64 t525, .int .i64 (wrap64 (1 + t515)), .int .i64 t527, .bool t529, .int .i64 x102_42, .bool (!false), .int .i64 t535, .int .i64 0]) ?_ 7 _ rfl; refine zQ ?_; refine Qk (cs := #[.int .i64 t525, .int .i64 (wrap64 (1 + t515)), .int .i64 t527, .bool t529, .int .i64 x102_42, .bool (!false), .int .i64 0, .int .i64 0]) ?_ 6 _ rfl; refine zQ ?_; refine Qk (cs := #[.int .i64 t525, .int .i64 (wrap64 (1 + t515)), .int .i64 t527, .bool t529, .int .i64 x102_42, .bool false, .int .i64 0, .int .i64 0]) ?_ 5 _ rfl; refine zQ ?_; refine Qk (cs := #[.int .i64 t525, .int .i64 (wrap64 (1 + t515)), .int .i64 t527, .bool t529, .int .i64 0, .bool false, .int .i64 0, .int .i64 0]) ?_ 4 _ rfl; refine zQ ?_; refine Qk (cs := #[.int .i64 t525, .int .i64 (wrap64 (1 + t515)), .int .i64 t527, .bool false, .int .i64 0, .bool false, .int .i64 0, .int .i64 0]) ?_ 3 _ rfl; refine zQ ?_; refine Qk (cs := #[.int .i64 t525, .int .i64 (wrap64 (1 + t515)), .int .i64 0, .bool false, .int .i64 0, .bool false, .int .i64 0, .int .i64 0]) ?_ 2 _ rfl; refine zQ ?_; refine Qk (cs := #[.int .i64 t525, .int .i64 0, .int .i64 0, .bool false, .int .i64 0, .bool false, .int .i64 0, .int .i64 0]) ?_ 1 _ rfl; refine zQ ?_; refine Qk (cs := #[.int .i64 0, .int .i64 0, .int .i64 0, .bool false, .int .i64 0, .bool false, .int .i64 0, .int .i64 0]) ?_ 0 _ rfl; refine zQ ?_; refine blk_far ?_ NB512_517.out _; refine zQ ?_; exact BK512.out) : p := h
theorem yj5 {p : Prop} (h : p := by repeat (first | (with_reducible first | exact HB.out | apply Qc | apply Qa | apply Qb | refine Qd ?_ (IsS101.ge HI0.out)) | exact HB.out)) : p := h
theorem yj6 {p : Prop} (h : p := by repeat (first | (with_reducible first | exact HI0.out | apply IsS101.alloc | apply IsS101.drewN | apply IsS101.drew | apply IsS101.set_1) | exact HI0.out)) : p := h
theorem yj7 {p : Prop} (h : p := by repeat (first | (with_reducible first | exact HI0.out | apply IsS101.alloc | apply IsS101.drewN | apply IsS101.drew | refine IsS101.far ?_ NB0_512.out _ | refine IsS101.far ?_ NB0_517.out _ | apply IsS101.set_1) | exact HI0.out)) : p := h
theorem yj8 {p : Prop} (h : p := by repeat (first | (with_reducible first | exact HB.out | apply Qc | apply Qa | apply Qb | refine Qd ?_ (IsS101.ge HI0.out) | refine Qd ?_ GE512.out) | exact HB.out)) : p := h
theorem yj9 {p : Prop} (h : p := by repeat (first | (with_reducible first | exact HI0.out | apply IsS101.alloc | apply IsS101.drewN | apply IsS101.drew | refine IsS101.far ?_ NB0_512.out _ | apply IsS101.set_1) | exact HI0.out)) : p := h
theorem yj10 {p : Prop} (h : p := by first | exact (IsS101.far (p := ⟨gb517, 7, none⟩) (IsS101.far (p := ⟨gb517, 6, none⟩) (IsS101.far (p := ⟨gb517, 5, none⟩) (IsS101.far (p := ⟨gb517, 4, none⟩) (IsS101.far (p := ⟨gb517, 3, none⟩) (IsS101.far (p := ⟨gb517, 2, none⟩) (IsS101.far (p := ⟨gb517, 1, none⟩) (IsS101.far (p := ⟨gb517, 0, none⟩) HI0.out NB0_517.out _) NB0_517.out _) NB0_517.out _) NB0_517.out _) NB0_517.out _) NB0_517.out _) NB0_517.out _) NB0_517.out _) | (repeat (first | (with_reducible first | exact HI0.out | apply IsS101.alloc | apply IsS101.drewN | apply IsS101.drew | refine IsS101.far ?_ NB0_512.out _ | refine IsS101.far ?_ NB0_517.out _ | apply IsS101.set_1) | exact HI0.out))) : p := h
theorem yj11 {p : Prop} (h : p := by refine zQ ?_; refine blk_far ?_ NB512_517.out _; refine zQ ?_; refine blk_far ?_ NB512_517.out _; refine zQ ?_; refine blk_far ?_ NB512_517.out _; refine zQ ?_; refine blk_far ?_ NB512_517.out _; refine zQ ?_; refine blk_far ?_ NB512_517.out _; refine zQ ?_; refine blk_far ?_ NB512_517.out _; refine zQ ?_; refine blk_far ?_ NB512_517.out _; refine zQ ?_; refine blk_far ?_ NB512_517.out _; refine zQ ?_; exact BK512.out) : p := h
theorem yj12 {p : Prop} (h : p := by refine zQ ?_; refine blk_far ?_ NB512_517.out _; refine zQ ?_; exact BK512.out) : p := h
theorem yj13 {p : Prop} (h : p := by rw [hg]; exact Nat.ne_of_lt (IsS101.lt (show IsS101 w0 _ g s0_0 t516 from by repeat (first | (with_reducible first | exact HI0.out | apply IsS101.alloc | apply IsS101.drewN | apply IsS101.drew | refine IsS101.far ?_ NB0_512.out _ | apply IsS101.set_1) | exact HI0.out)))) : p := h
theorem yj14 {p : Prop} (h : p := by rw [hg]; exact Nat.ne_of_gt (IsS101.lt (show IsS101 w0 _ g s0_0 t516 from by repeat (first | (with_reducible first | exact HI0.out | apply IsS101.alloc | apply IsS101.drewN | apply IsS101.drew | refine IsS101.far ?_ NB0_512.out _ | apply IsS101.set_1) | exact HI0.out)))) : p := h
theorem yj15 {p : Prop} (h : p := by first | (go_simp; done) | (go_simp; rfl)) : p := h
theorem yj16 {p : Prop} (h : p := by rw [hg]; exact Nat.ne_of_lt (IsS101.lt (show IsS101 w0 _ g s0_0 s0_1 from by repeat (first | (with_reducible first | exact HI0.out | apply IsS101.alloc | apply IsS101.drewN | apply IsS101.drew | apply IsS101.set_1) | exact HI0.out)))) : p := h
theorem yj17 {p : Prop} (h : p := by rw [hg]; exact Nat.ne_of_gt (IsS101.lt (show IsS101 w0 _ g s0_0 s0_1 from by repeat (first | (with_reducible first | exact HI0.out | apply IsS101.alloc | apply IsS101.drewN | apply IsS101.drew | apply IsS101.set_1) | exact HI0.out)))) : p := h
theorem yj18 {p : Prop} (h : p := by rw [hg]; exact (keep_size (w := w) (g := g) (row := none) yj2)) : p := h
theorem yj19 {p : Prop} (h : p := by rw [hg]; exact (keep_size (w := w) (g := g) (row := none) zK)) : p := h
theorem yj20 {p : Prop} (h : p := by rw [hg]; exact Nat.ne_of_lt (Ql (g := gb512) (o := .cells #[.int .i64 0, .int .i64 0, .int .i64 0, .bool false, .int .i64 0, .bool false, .int .i64 0, .int .i64 0] 48 (0, 0)) zk)) : p := h
theorem yj21 {p : Prop} (h : p := by rw [hg]; exact Nat.ne_of_gt (Ql (g := gb512) (o := .cells #[.int .i64 0, .int .i64 0, .int .i64 0, .bool false, .int .i64 0, .bool false, .int .i64 0, .int .i64 0] 48 (0, 0)) zk)) : p := h
theorem yj22 {p : Prop} (h : p := by rw [hg]; exact (Qp (by repeat (first | (with_reducible first | exact HBW.out | apply Qc | apply Qa | apply Qb) | exact HBW.out)))) : p := h
theorem yj23 {p : Prop} (h : p := by first | (rw [add_block]; exact hn494_0) | (show (Addr.add _ _).block ≠ _; rw [add_block]; exact hn494_0) | exact hn494_0) : p := h
set_option maxHeartbeats 8000000 in
set_option maxRecDepth 100000 in
theorem ZllwBig.calls (A0 : Option Addr) (c0 : Nat) (l0 : List Int) (r : Bool) (w : World) (hr0 : Kd.C (Kd.int .u8) w A0 l0.length l0) (hc0 : l0.length ≤ c0) (h : ZllwBig.f l0 = some r) :
 Calls Try.prog 25 #[.slice A0 l0.length c0] w fun e w' => e = .returned (.bool r) ∧ Drawn0 w w' := by
 have HR0 := Qz.mk hr0
 have HC0 := Qz.mk hc0
 clear hr0 hc0
 have H : (some (decide ((l0.length : Int) > 1048576))) = some r := h
 clear h
 obtain rfl := Option.some.inj H
 go_enter Try.func25, Try.ntmps25
 go_wp2
 go_ret
 exact ⟨zs, zd⟩
set_option maxHeartbeats 8000000 in
set_option maxRecDepth 100000 in
theorem Zsl1Source.calls (A0 : Option Addr) (c0 : Nat) (l0 : List Int) (r1 : List Int) (r2 : Int) (w0 w : World) (hB : Below w0.heap.size w0 w) (hr0 : Kd.C (Kd.int .u8) w0 A0 l0.length l0) (hc0 : l0.length ≤ c0) (h : Zsl1Source.f l0 = some (r1, r2)) :
 Calls Try.prog 63 #[.slice A0 l0.length c0] w fun e w' => ∃ g_ : Nat, e = .returned (.pointer (some ⟨g_, 0, none⟩)) ∧ IsS101 w0 w' g_ r1 r2 ∧ Below w0.heap.size w0 w' ∧ Below w.heap.size w w' := by
 have hu101 := Try.underlying101
 have HR0 := Qz.mk hr0
 have HC0 := Qz.mk hc0
 clear hr0 hc0
 have HBW := Qz.mk (Below.refl w.heap.size w)
 have HW0 := Qz.mk hB.size
 have HB := Qz.mk hB
 clear hB
 have H : (some (l0, 0)) = some (r1, r2) := h
 clear h
 simp only [Option.some.injEq, Prod.mk.injEq] at H
 obtain ⟨rfl, rfl⟩ := H
 go_enter Try.func63, Try.ntmps63
 go_wp2_with (first | ((with_reducible refine gate_dst (N := 5) rfl ?_); refine box_event ?hg (N := 5) ?hd (cs := #[.slice A0 l0.length c0, .int .i64 0]) (t := 101) ?hr ?_; (case hd => rfl); (case hg => rfl); (case hr => exact yj15); intro gb6 hg w2 hbox hb; have n0_ := Qz.mk (Qq HBW.out hb); have n1_ := Qz.mk (Qq zb hb); have n2_ := Qz.mk (hbox); have n3_ := Qz.mk ((yj22 : w.heap.size ≤ gb6)); have n4_ := Qz.mk ((Nat.le_trans HW0.out (yj22 : w.heap.size ≤ gb6) : w0.heap.size ≤ gb6)); clear HBW; clear HB; have HBW := n0_; have HB := n1_; have BK6 := n2_; have GW6 := n3_; have GE6 := n4_; clear n0_ n1_ n2_ n3_ n4_; clear hb hbox hg))
 go_ret
 exact ⟨_, rfl, (show IsS101 w0 _ gb6 l0 0 from ⟨_, _, by refine zQ ?_; exact BK6.out, GE6.out, HR0.out⟩), zb, by repeat (first | (with_reducible first | exact HBW.out | apply Qc | apply Qa | apply Qb | refine Qd ?_ GW6.out) | exact HBW.out)⟩
set_option maxHeartbeats 8000000 in
set_option maxRecDepth 100000 in
theorem Zsl1Next.calls (g : Nat) (s0_0 : List Int) (s0_1 : Int) (a1 : Int) (r1 : Int) (r2 : Int) (w0 w : World) (hI : IsS101 w0 w g s0_0 s0_1) (hB : Below w0.heap.size w0 w) (h : Zsl1Next.f s0_0 s0_1 a1 = some (r1, r2)) :
 Calls Try.prog 64 #[.pointer (some ⟨g, 0, none⟩), .int .i64 a1] w fun e w' => e = .returned (.int .i64 r1) ∧ IsS101 w0 w' g s0_0 r2 ∧ Below w0.heap.size w0 w' ∧ Qau w w' g none := by
 have HI0 := Qz.mk hI
 have HK := Qz.mk (Qau.refl w g none)
 have HL := Qz.mk hB.size
 clear hI
 have HW0 := Qz.mk hB.size
 have HB := Qz.mk hB
 clear hB
 have H : (if a1 < 1 then (some (0, wrap64 (s0_1 + 1))) else (if (s0_0.length : Int) = 0 then (if a1 = 0 then (none) else (some (Int.tmod (wrap64 ((wrap64 ((wrap64 (s0_1 + 1)) - 1)) * 7)) a1, wrap64 (s0_1 + 1)))) else (if 0 ≤ (Int.tmod (wrap64 ((wrap64 (s0_1 + 1)) - 1)) (s0_0.length : Int)) then (if (Int.tmod (wrap64 ((wrap64 (s0_1 + 1)) - 1)) (s0_0.length : Int)) < (s0_0.length : Int) then (if a1 > 200 then (if 0 ≤ (Int.tmod (wrap64 ((wrap64 ((wrap64 (s0_1 + 1)) - 1)) + 1)) (s0_0.length : Int)) then (if (Int.tmod (wrap64 ((wrap64 ((wrap64 (s0_1 + 1)) - 1)) + 1)) (s0_0.length : Int)) < (s0_0.length : Int) then (if a1 = 0 then (none) else (some (Int.tmod (wrap64 ((wrap64 ((wrap64 ((wrap64 ((wrap64 (rd s0_0 (Int.tmod (wrap64 ((wrap64 (s0_1 + 1)) - 1)) (s0_0.length : Int)))) + (wrap64 ((wrap64 (Int.tdiv (wrap64 ((wrap64 (s0_1 + 1)) - 1)) (s0_0.length : Int))) * 37)))) * 251)) + (wrap64 ((wrap64 (rd s0_0 (Int.tmod (wrap64 ((wrap64 ((wrap64 (s0_1 + 1)) - 1)) + 1)) (s0_0.length : Int)))) * 13)))) + (wrap64 ((wrap64 (s0_1 + 1)) - 1)))) a1, wrap64 (s0_1 + 1)))) else (none)) else (none)) else (if a1 = 0 then (none) else (some (Int.tmod (wrap64 ((wrap64 (rd s0_0 (Int.tmod (wrap64 ((wrap64 (s0_1 + 1)) - 1)) (s0_0.length : Int)))) + (wrap64 ((wrap64 (Int.tdiv (wrap64 ((wrap64 (s0_1 + 1)) - 1)) (s0_0.length : Int))) * 37)))) a1, wrap64 (s0_1 + 1))))) else (none)) else (none)))) = some (r1, r2) := h
 clear h
 by_cases c3 : a1 < 1
 ·rw [if_pos c3] at H
  have c3b0 : decide (a1 < 1) = true := decide_eq_true c3
  clear c3
  simp only [Option.some.injEq, Prod.mk.injEq] at H
  obtain ⟨rfl, rfl⟩ := H
  obtain ⟨ASz4_0, cSz4_0, HGz4, hgz4, HSz4_0⟩ := HI0.out
  have z4_0 := cellS101_0 HGz4
  have z4_1 := cellS101_1 HGz4
  have j4_1 := Qj HGz4 1
  clear HGz4 hgz4
  go_enter Try.func64, Try.ntmps64
  go_wp2
  repeat (go_quiet (fail); try go_wp2)
  go_ret
  exact ⟨ze, by repeat (first | (with_reducible first | exact HI0.out | apply IsS101.alloc | apply IsS101.drewN | apply IsS101.drew | apply IsS101.set_1) | exact HI0.out), by repeat (first | (with_reducible first | exact HB.out | apply Qc | apply Qa | apply Qb | refine Qd ?_ (IsS101.ge HI0.out)) | exact HB.out), by repeat (first | (with_reducible first | exact HK.out | apply Qau.set_ | apply keep_drewN | apply keep_drew | apply keep_alloc) | exact HK.out)⟩
 rw [if_neg c3] at H
 have c3b0 : decide (a1 < 1) = false := decide_eq_false c3
 clear c3
 by_cases c5 : (s0_0.length : Int) = 0
 ·rw [if_pos c5] at H
  have c5b0 : ((s0_0.length : Int) == 0) = true := beq_iff_eq.mpr c5
  have c5b1 : ((s0_0.length : Int) != 0) = false := bne_eq_false_iff_eq.mpr c5
  clear c5
  by_cases c6 : a1 = 0
  ·rw [if_pos c6] at H
   exact absurd H (by simp)
  rw [if_neg c6] at H
  have c6b0 : (a1 == 0) = false := beq_eq_false_iff_ne.mpr c6
  have c6b1 : (a1 != 0) = true := bne_iff_ne.mpr c6
  simp only [Option.some.injEq, Prod.mk.injEq] at H
  obtain ⟨rfl, rfl⟩ := H
  obtain ⟨ASz7_0, cSz7_0, HGz7, hgz7, HSz7_0⟩ := HI0.out
  have z7_0 := cellS101_0 HGz7
  have z7_1 := cellS101_1 HGz7
  have j7_1 := Qj HGz7 1
  clear HGz7 hgz7
  go_enter Try.func64, Try.ntmps64
  go_wp2
  repeat (go_quiet (fail); try go_wp2)
  go_ret
  exact ⟨ze, by repeat (first | (with_reducible first | exact HI0.out | apply IsS101.alloc | apply IsS101.drewN | apply IsS101.drew | apply IsS101.set_1) | exact HI0.out), by repeat (first | (with_reducible first | exact HB.out | apply Qc | apply Qa | apply Qb | refine Qd ?_ (IsS101.ge HI0.out)) | exact HB.out), by repeat (first | (with_reducible first | exact HK.out | apply Qau.set_ | apply keep_drewN | apply keep_drew | apply keep_alloc) | exact HK.out)⟩
 rw [if_neg c5] at H
 have c5b0 : ((s0_0.length : Int) == 0) = false := beq_eq_false_iff_ne.mpr c5
 have c5b1 : ((s0_0.length : Int) != 0) = true := bne_iff_ne.mpr c5
 have c5b2 : ¬ (s0_0 = []) := fun h_ => c5 (by rw [h_]; rfl)
 obtain ⟨ji8, hji8⟩ : ∃ j_ : Int, (Int.tmod (wrap64 ((wrap64 (s0_1 + 1)) - 1)) (s0_0.length : Int)) = j_ := ⟨_, rfl⟩
 replace H : (if 0 ≤ (ji8) then (if (ji8) < (s0_0.length : Int) then (if a1 > 200 then (if 0 ≤ (Int.tmod (wrap64 ((wrap64 ((wrap64 (s0_1 + 1)) - 1)) + 1)) (s0_0.length : Int)) then (if (Int.tmod (wrap64 ((wrap64 ((wrap64 (s0_1 + 1)) - 1)) + 1)) (s0_0.length : Int)) < (s0_0.length : Int) then (if a1 = 0 then (none) else (some (Int.tmod (wrap64 ((wrap64 ((wrap64 ((wrap64 ((wrap64 (rd s0_0 (ji8))) + (wrap64 ((wrap64 (Int.tdiv (wrap64 ((wrap64 (s0_1 + 1)) - 1)) (s0_0.length : Int))) * 37)))) * 251)) + (wrap64 ((wrap64 (rd s0_0 (Int.tmod (wrap64 ((wrap64 ((wrap64 (s0_1 + 1)) - 1)) + 1)) (s0_0.length : Int)))) * 13)))) + (wrap64 ((wrap64 (s0_1 + 1)) - 1)))) a1, wrap64 (s0_1 + 1)))) else (none)) else (none)) else (if a1 = 0 then (none) else (some (Int.tmod (wrap64 ((wrap64 (rd s0_0 (ji8))) + (wrap64 ((wrap64 (Int.tdiv (wrap64 ((wrap64 (s0_1 + 1)) - 1)) (s0_0.length : Int))) * 37)))) a1, wrap64 (s0_1 + 1))))) else (none)) else (none)) = some (r1, r2) := by first | (rw [hji8] at H; exact H) | (simp only [hji8] at H ⊢; exact H)
 by_cases c9 : 0 ≤ (ji8)
 ·rw [if_pos c9] at H
  have c9b0 : decide (0 ≤ (ji8)) = true := decide_eq_true c9
  clear c9
  by_cases c10 : (ji8) < (s0_0.length : Int)
  ·rw [if_pos c10] at H
   have c10b0 : decide ((ji8) < (s0_0.length : Int)) = true := decide_eq_true c10
   clear c10
   by_cases c11 : a1 > 200
   ·rw [if_pos c11] at H
    have c11b0 : decide (200 < a1) = true := decide_eq_true c11
    clear c11
    obtain ⟨ji12, hji12⟩ : ∃ j_ : Int, (Int.tmod (wrap64 ((wrap64 ((wrap64 (s0_1 + 1)) - 1)) + 1)) (s0_0.length : Int)) = j_ := ⟨_, rfl⟩
    replace H : (if 0 ≤ (ji12) then (if (ji12) < (s0_0.length : Int) then (if a1 = 0 then (none) else (some (Int.tmod (wrap64 ((wrap64 ((wrap64 ((wrap64 ((wrap64 (rd s0_0 (ji8))) + (wrap64 ((wrap64 (Int.tdiv (wrap64 ((wrap64 (s0_1 + 1)) - 1)) (s0_0.length : Int))) * 37)))) * 251)) + (wrap64 ((wrap64 (rd s0_0 (ji12))) * 13)))) + (wrap64 ((wrap64 (s0_1 + 1)) - 1)))) a1, wrap64 (s0_1 + 1)))) else (none)) else (none)) = some (r1, r2) := by first | (rw [hji12] at H; exact H) | (simp only [hji12] at H ⊢; exact H)
    by_cases c13 : 0 ≤ (ji12)
    ·rw [if_pos c13] at H
     have c13b0 : decide (0 ≤ (ji12)) = true := decide_eq_true c13
     clear c13
     by_cases c14 : (ji12) < (s0_0.length : Int)
     ·rw [if_pos c14] at H
      have c14b0 : decide ((ji12) < (s0_0.length : Int)) = true := decide_eq_true c14
      clear c14
      by_cases c15 : a1 = 0
      ·rw [if_pos c15] at H
       exact absurd H (by simp)
      rw [if_neg c15] at H
      have c15b0 : (a1 == 0) = false := beq_eq_false_iff_ne.mpr c15
      have c15b1 : (a1 != 0) = true := bne_iff_ne.mpr c15
      simp only [Option.some.injEq, Prod.mk.injEq] at H
      obtain ⟨rfl, rfl⟩ := H
      obtain ⟨ASz16_0, cSz16_0, HGz16, hgz16, HSz16_0⟩ := HI0.out
      have z16_0 := cellS101_0 HGz16
      have z16_1 := cellS101_1 HGz16
      have j16_1 := Qj HGz16 1
      clear HGz16 hgz16
      have p494 : 0 ≤ ((ji8) : Int) := of_decide_eq_true za
      have q19 : (ji8) < (s0_0.length : Int) := of_decide_eq_true za
      obtain ⟨ad19, e494, hx19_0⟩ := Kd.at_int HSz16_0 (ji8) p494 q19
      cases e494
      have hn494_0 : ad19.block ≠ g := Nat.ne_of_lt (Nat.lt_of_lt_of_le (by have := World.block_lt_of_cell? _ _ hx19_0; first | rwa [add_block] at this | exact this) (IsS101.ge HI0.out))
      replace hx19_0 := pw_cell_below HB.out hx19_0
      replace hx19_0 := (Qaq (p := ⟨g, 1, none⟩) yj23 (.int .i64 (wrap64 (s0_1 + 1)))).trans hx19_0
      (try have hy19_0 := fun (n_ : Nat) => (show (((w.drewN n_).setCell ⟨g, 1, none⟩ (.int .i64 (wrap64 (s0_1 + 1))))).cell? _ = some _ from hx19_0))
      clear hn494_0
      replace p494 := eq_true p494
      replace q19 := eq_true q19
      have p495 : 0 ≤ ((ji12) : Int) := of_decide_eq_true za
      have q20 : (ji12) < (s0_0.length : Int) := of_decide_eq_true za
      obtain ⟨ad20, e495, hx20_0⟩ := Kd.at_int HSz16_0 (ji12) p495 q20
      obtain rfl : ad19 = ad20 := (by injection e495)
      have hn495_0 : ad19.block ≠ g := Nat.ne_of_lt (Nat.lt_of_lt_of_le (by have := World.block_lt_of_cell? _ _ hx20_0; first | rwa [add_block] at this | exact this) (IsS101.ge HI0.out))
      replace hx20_0 := pw_cell_below HB.out hx20_0
      replace hx20_0 := (Qaq (p := ⟨g, 1, none⟩) (by first | (rw [add_block]; exact hn495_0) | (show (Addr.add _ _).block ≠ _; rw [add_block]; exact hn495_0) | exact hn495_0) (.int .i64 (wrap64 (s0_1 + 1)))).trans hx20_0
      (try have hy20_0 := fun (n_ : Nat) => (show (((w.drewN n_).setCell ⟨g, 1, none⟩ (.int .i64 (wrap64 (s0_1 + 1))))).cell? _ = some _ from hx20_0))
      clear hn495_0
      replace p495 := eq_true p495
      replace q20 := eq_true q20
      go_enter Try.func64, Try.ntmps64
      go_wp2
      repeat (go_quiet (fail); try go_wp2)
      go_ret
      exact ⟨by first | rfl | (simp [Qv, Qu] <;> rfl) | (simp only [← hji8, ← hji12]; first | rfl | (simp [Qv, Qu] <;> rfl)) | (simp [*, Qv, Qu] <;> rfl), by repeat (first | (with_reducible first | exact HI0.out | apply IsS101.alloc | apply IsS101.drewN | apply IsS101.drew | apply IsS101.set_1) | exact HI0.out), by repeat (first | (with_reducible first | exact HB.out | apply Qc | apply Qa | apply Qb | refine Qd ?_ (IsS101.ge HI0.out)) | exact HB.out), by repeat (first | (with_reducible first | exact HK.out | apply Qau.set_ | apply keep_drewN | apply keep_drew | apply keep_alloc) | exact HK.out)⟩
     rw [if_neg c14] at H
     exact absurd H (by simp)
    rw [if_neg c13] at H
    exact absurd H (by simp)
   rw [if_neg c11] at H
   have c11b0 : decide (200 < a1) = false := decide_eq_false c11
   clear c11
   by_cases c17 : a1 = 0
   ·rw [if_pos c17] at H
    exact absurd H (by simp)
   rw [if_neg c17] at H
   have c17b0 : (a1 == 0) = false := beq_eq_false_iff_ne.mpr c17
   have c17b1 : (a1 != 0) = true := bne_iff_ne.mpr c17
   simp only [Option.some.injEq, Prod.mk.injEq] at H
   obtain ⟨rfl, rfl⟩ := H
   obtain ⟨ASz18_0, cSz18_0, HGz18, hgz18, HSz18_0⟩ := HI0.out
   have z18_0 := cellS101_0 HGz18
   have z18_1 := cellS101_1 HGz18
   have j18_1 := Qj HGz18 1
   clear HGz18 hgz18
   have p494 : 0 ≤ ((ji8) : Int) := of_decide_eq_true za
   have q19 : (ji8) < (s0_0.length : Int) := of_decide_eq_true za
   obtain ⟨ad19, e494, hx19_0⟩ := Kd.at_int HSz18_0 (ji8) p494 q19
   cases e494
   have hn494_0 : ad19.block ≠ g := Nat.ne_of_lt (Nat.lt_of_lt_of_le (by have := World.block_lt_of_cell? _ _ hx19_0; first | rwa [add_block] at this | exact this) (IsS101.ge HI0.out))
   replace hx19_0 := pw_cell_below HB.out hx19_0
   replace hx19_0 := (Qaq (p := ⟨g, 1, none⟩) yj23 (.int .i64 (wrap64 (s0_1 + 1)))).trans hx19_0
   (try have hy19_0 := fun (n_ : Nat) => (show (((w.drewN n_).setCell ⟨g, 1, none⟩ (.int .i64 (wrap64 (s0_1 + 1))))).cell? _ = some _ from hx19_0))
   clear hn494_0
   replace p494 := eq_true p494
   replace q19 := eq_true q19
   go_enter Try.func64, Try.ntmps64
   go_wp2
   repeat (go_quiet (fail); try go_wp2)
   go_ret
   exact ⟨by first | rfl | (simp [Qv, Qu] <;> rfl) | (simp only [← hji8]; first | rfl | (simp [Qv, Qu] <;> rfl)) | (simp [*, Qv, Qu] <;> rfl), by repeat (first | (with_reducible first | exact HI0.out | apply IsS101.alloc | apply IsS101.drewN | apply IsS101.drew | apply IsS101.set_1) | exact HI0.out), by repeat (first | (with_reducible first | exact HB.out | apply Qc | apply Qa | apply Qb | refine Qd ?_ (IsS101.ge HI0.out)) | exact HB.out), by repeat (first | (with_reducible first | exact HK.out | apply Qau.set_ | apply keep_drewN | apply keep_drew | apply keep_alloc) | exact HK.out)⟩
  rw [if_neg c10] at H
  exact absurd H (by simp)
 rw [if_neg c9] at H
 exact absurd H (by simp)
set_option maxHeartbeats 8000000 in
set_option maxRecDepth 100000 in
theorem Zsl1Chance.calls (g : Nat) (s0_0 : List Int) (s0_1 : Int) (a1 : Int) (r1 : Bool) (r2 : Int) (w0 w : World) (hI : IsS101 w0 w g s0_0 s0_1) (hB : Below w0.heap.size w0 w) (h : Zsl1Chance.f s0_0 s0_1 a1 = some (r1, r2)) :
 Calls Try.prog 66 #[.pointer (some ⟨g, 0, none⟩), .int .i64 a1] w fun e w' => e = .returned (.bool r1) ∧ IsS101 w0 w' g s0_0 r2 ∧ Below w0.heap.size w0 w' ∧ Qau w w' g none := by
 have HI0 := Qz.mk hI
 have HK := Qz.mk (Qau.refl w g none)
 have HL := Qz.mk hB.size
 clear hI
 have HW0 := Qz.mk hB.size
 have HB := Qz.mk hB
 clear hB
 have H : ((Zsl1Next.f s0_0 s0_1 a1).bind fun bt5 => (some ((bt5.1 == 0), bt5.2))) = some (r1, r2) := h
 clear h
 replace H := Option.bind_eq_some_iff.mp H
 obtain ⟨⟨t5, t6⟩, A30, H⟩ := H
 replace H : (some ((t5 == 0), t6)) = some (r1, r2) := H
 have A3 := Qz.mk A30
 clear A30
 simp only [Option.some.injEq, Prod.mk.injEq] at H
 obtain ⟨rfl, rfl⟩ := H
 go_enter Try.func66, Try.ntmps66
 go_wp2_with (first | ((with_reducible refine gate_callee (f := 64) rfl ?_); refine Qat (some 7) rfl rfl Try.func64 (by kernel_rfl) rfl #[.pointer (some ⟨g, 0, none⟩), .int .i64 a1] rfl zm ?_; (with_reducible refine (Zsl1Next.calls g s0_0 s0_1 a1 t5 t6 w0 _ ?side1 ?side2 A3.out).mono ?_); (case side1 => exact yj6); (case side2 => exact yj5); rintro e w4 ⟨rfl, hi, hb, hk⟩; refine ⟨_, rfl, ?_⟩; have n0_ := Qz.mk (Qau.trans zK hk (.inl rfl)); have n1_ := Qz.mk (hb); have n2_ := Qz.mk (hi); clear HK; clear HB; clear HI0; have HK := n0_; have HB := n1_; have HI0 := n2_; clear n0_ n1_ n2_; (try clear hb); (try clear hb2); (try clear hk); (try clear hi)))
 go_ret
 exact ⟨ze, by repeat (first | (with_reducible first | exact HI0.out | apply IsS101.alloc | apply IsS101.drewN | apply IsS101.drew | apply IsS101.set_1) | exact HI0.out), by repeat (first | (with_reducible first | exact HB.out | apply Qc | apply Qa | apply Qb | refine Qd ?_ (IsS101.ge HI0.out)) | exact HB.out), by repeat (first | (with_reducible first | exact HK.out | apply Qau.set_ | apply keep_drewN | apply keep_drew | apply keep_alloc) | exact HK.out)⟩
set_option maxHeartbeats 8000000 in
set_option maxRecDepth 100000 in
theorem Zsl1Pick.calls (g : Nat) (s0_0 : List Int) (s0_1 : Int) (A1 : Option Addr) (c1 : Nat) (l1 : List Int) (r1 : Int) (r2 : Int) (w0 w : World) (hI : IsS101 w0 w g s0_0 s0_1) (hB : Below w0.heap.size w0 w) (hr1 : Kd.C (Kd.int .i64) w A1 l1.length l1) (hc1 : l1.length ≤ c1) (hf1 : ∀ ad, A1 = some ad → 0 < l1.length → ad.block ≠ g) (h : Zsl1Pick.f s0_0 s0_1 l1 = some (r1, r2)) :
 Calls Try.prog 68 #[.pointer (some ⟨g, 0, none⟩), .slice A1 l1.length c1] w fun e w' => e = .returned (.int .i64 r1) ∧ IsS101 w0 w' g s0_0 r2 ∧ Below w0.heap.size w0 w' ∧ Qau w w' g none := by
 have HR1 := Qz.mk hr1
 have HC1 := Qz.mk hc1
 clear hr1 hc1
 have HI0 := Qz.mk hI
 have HK := Qz.mk (Qau.refl w g none)
 have HL := Qz.mk hB.size
 clear hI
 have HW0 := Qz.mk hB.size
 have HB := Qz.mk hB
 clear hB
 have H : ((Zsl1Next.f s0_0 s0_1 (l1.length : Int)).bind fun bt7 => (if 0 ≤ bt7.1 then (if bt7.1 < (l1.length : Int) then (some (rd l1 bt7.1, bt7.2)) else (none)) else (none))) = some (r1, r2) := h
 clear h
 replace H := Option.bind_eq_some_iff.mp H
 obtain ⟨⟨t7, t10⟩, A30, H⟩ := H
 replace H : (if 0 ≤ t7 then (if t7 < (l1.length : Int) then (some (rd l1 t7, t10)) else (none)) else (none)) = some (r1, r2) := H
 have A3 := Qz.mk A30
 clear A30
 by_cases c4 : 0 ≤ t7
 ·rw [if_pos c4] at H
  have c4b0 : decide (0 ≤ t7) = true := decide_eq_true c4
  clear c4
  by_cases c5 : t7 < (l1.length : Int)
  ·rw [if_pos c5] at H
   have c5b0 : decide (t7 < (l1.length : Int)) = true := decide_eq_true c5
   clear c5
   simp only [Option.some.injEq, Prod.mk.injEq] at H
   obtain ⟨rfl, rfl⟩ := H
   go_enter Try.func68, Try.ntmps68
   go_wp2_with (first | ((with_reducible refine gate_callee (f := 64) rfl ?_); refine Qat (some 9) rfl rfl Try.func64 (by kernel_rfl) rfl #[.pointer (some ⟨g, 0, none⟩), .int .i64 (l1.length : Int)] rfl zm ?_; (with_reducible refine (Zsl1Next.calls g s0_0 s0_1 (l1.length : Int) t7 t10 w0 _ ?side1 ?side2 A3.out).mono ?_); (case side1 => exact yj6); (case side2 => exact yj5); rintro e w6 ⟨rfl, hi, hb, hk⟩; refine ⟨_, rfl, ?_⟩; have n0_ := Qz.mk (Qau.trans zK hk (.inl rfl)); have n1_ := Qz.mk (hb); have n2_ := Qz.mk (hi); clear HK; clear HB; clear HI0; have HK := n0_; have HB := n1_; have HI0 := n2_; clear n0_ n1_ n2_; (try clear hb); (try clear hb2); (try clear hk); (try clear hi); have p500 : 0 ≤ (t7 : Int) := of_decide_eq_true za; have q8 : t7 < (l1.length : Int) := of_decide_eq_true za; obtain ⟨ad8, e500, hx8_0⟩ := Kd.at_int HR1.out t7 p500 q8; cases e500; replace hx8_0 := keep_cell HK.out hx8_0 (by first | (rw [add_block]; exact hf1 _ rfl (by omega)) | exact hf1 _ rfl (by omega) | exact hf1 ad8 rfl (by omega)); replace p500 := eq_true p500; replace q8 := eq_true q8))
   go_ret
   exact ⟨ze, by repeat (first | (with_reducible first | exact HI0.out | apply IsS101.alloc | apply IsS101.drewN | apply IsS101.drew | apply IsS101.set_1) | exact HI0.out), by repeat (first | (with_reducible first | exact HB.out | apply Qc | apply Qa | apply Qb | refine Qd ?_ (IsS101.ge HI0.out)) | exact HB.out), by repeat (first | (with_reducible first | exact HK.out | apply Qau.set_ | apply keep_drewN | apply keep_drew | apply keep_alloc) | exact HK.out)⟩
  rw [if_neg c5] at H
  exact absurd H (by simp)
 rw [if_neg c4] at H
 exact absurd H (by simp)
set_option maxHeartbeats 8000000 in
set_option maxRecDepth 100000 in
theorem Zsl1DrawKey.calls (g : Nat) (s0_0 : List Int) (s0_1 : Int) (r1 : Int) (r2 : Int) (w0 w : World) (hI : IsS101 w0 w g s0_0 s0_1) (hB : Below w0.heap.size w0 w) (h : Zsl1DrawKey.f s0_0 s0_1 = some (r1, r2)) :
 Calls Try.prog 90 #[.pointer (some ⟨g, 0, none⟩)] w fun e w' => e = .returned (.int .i64 r1) ∧ IsS101 w0 w' g s0_0 r2 ∧ Below w0.heap.size w0 w' ∧ Qau w w' g none := by
 have HI0 := Qz.mk hI
 have HK := Qz.mk (Qau.refl w g none)
 have HL := Qz.mk hB.size
 clear hI
 have HW0 := Qz.mk hB.size
 have HB := Qz.mk hB
 clear hB
 have H : ((Zsl1Next.f s0_0 s0_1 8).bind fun bt16 => ((Zsl1Next.f s0_0 bt16.2 8).bind fun bt15 => ((Zsl1Next.f s0_0 bt15.2 32).bind fun bt14 => ((Zsl1Pick.f s0_0 bt14.2 (([bt16.1, bt15.1, bt14.1] : List Int))).bind fun bt13 => (some (bt13.1, bt13.2)))))) = some (r1, r2) := h
 clear h
 replace H := Option.bind_eq_some_iff.mp H
 obtain ⟨⟨t16, t21⟩, A20, H⟩ := H
 replace H : ((Zsl1Next.f s0_0 t21 8).bind fun bt15 => ((Zsl1Next.f s0_0 bt15.2 32).bind fun bt14 => ((Zsl1Pick.f s0_0 bt14.2 (([t16, bt15.1, bt14.1] : List Int))).bind fun bt13 => (some (bt13.1, bt13.2))))) = some (r1, r2) := H
 have A2 := Qz.mk A20
 clear A20
 replace H := Option.bind_eq_some_iff.mp H
 obtain ⟨⟨t15, t22⟩, A30, H⟩ := H
 replace H : ((Zsl1Next.f s0_0 t22 32).bind fun bt14 => ((Zsl1Pick.f s0_0 bt14.2 (([t16, t15, bt14.1] : List Int))).bind fun bt13 => (some (bt13.1, bt13.2)))) = some (r1, r2) := H
 have A3 := Qz.mk A30
 clear A30
 replace H := Option.bind_eq_some_iff.mp H
 obtain ⟨⟨t14, t19⟩, A40, H⟩ := H
 replace H : ((Zsl1Pick.f s0_0 t19 (([t16, t15, t14] : List Int))).bind fun bt13 => (some (bt13.1, bt13.2))) = some (r1, r2) := H
 have A4 := Qz.mk A40
 clear A40
 obtain ⟨y17, hy17⟩ : ∃ y_ : List Int, y_ = (([t16, t15, t14] : List Int)) := ⟨_, rfl⟩
 replace H : ((Zsl1Pick.f s0_0 t19 y17).bind fun bt13 => (some (bt13.1, bt13.2))) = some (r1, r2) := by first | (rw [hy17]; with_reducible exact H) | (have H2_ := (Option.bind_some _ _).symm.trans H; rw [hy17]; with_reducible exact H2_) | (have H2_ := (Option.bind_some _ _).symm.trans H; with_reducible exact H2_) | with_reducible exact H | (rw [hy17]; exact H) | exact H
 have Ny17 := Qz.mk hy17
 clear hy17
 replace H := Option.bind_eq_some_iff.mp H
 obtain ⟨⟨t13, t23⟩, A50, H⟩ := H
 replace H : (some (t13, t23)) = some (r1, r2) := H
 have A5 := Qz.mk A50
 clear A50
 simp only [Option.some.injEq, Prod.mk.injEq] at H
 obtain ⟨rfl, rfl⟩ := H
 go_enter Try.func90, Try.ntmps90
 go_wp2_with (first | ((with_reducible refine gate_callee (f := 64) rfl ?_); refine Qat (some 5) rfl rfl Try.func64 (by kernel_rfl) rfl #[.pointer (some ⟨g, 0, none⟩), .int .i64 8] rfl zm ?_; (with_reducible refine (Zsl1Next.calls g s0_0 s0_1 8 t16 t21 w0 _ ?side1 ?side2 A2.out).mono ?_); (case side1 => exact yj6); (case side2 => exact yj5); rintro e w6 ⟨rfl, hi, hb, hk⟩; refine ⟨_, rfl, ?_⟩; have n0_ := Qz.mk (Qau.trans zK hk (.inl rfl)); have n1_ := Qz.mk (hb); have n2_ := Qz.mk (hi); clear HK; clear HB; clear HI0; have HK := n0_; have HB := n1_; have HI0 := n2_; clear n0_ n1_ n2_; (try clear hb); (try clear hb2); (try clear hk); (try clear hi)) | ((with_reducible refine gate_callee (f := 64) rfl ?_); refine Qat (some 7) rfl rfl Try.func64 (by kernel_rfl) rfl #[.pointer (some ⟨g, 0, none⟩), .int .i64 8] rfl zm ?_; (with_reducible refine (Zsl1Next.calls g s0_0 t21 8 t15 t22 w0 _ ?side1 ?side2 A3.out).mono ?_); (case side1 => exact yj6); (case side2 => exact yj5); rintro e w7 ⟨rfl, hi, hb, hk⟩; refine ⟨_, rfl, ?_⟩; have n0_ := Qz.mk (Qau.trans zK hk (.inl rfl)); have n1_ := Qz.mk (hb); have n2_ := Qz.mk (hi); clear HK; clear HB; clear HI0; have HK := n0_; have HB := n1_; have HI0 := n2_; clear n0_ n1_ n2_; (try clear hb); (try clear hb2); (try clear hk); (try clear hi)) | ((with_reducible refine gate_callee (f := 64) rfl ?_); refine Qat (some 9) rfl rfl Try.func64 (by kernel_rfl) rfl #[.pointer (some ⟨g, 0, none⟩), .int .i64 32] rfl zm ?_; (with_reducible refine (Zsl1Next.calls g s0_0 t22 32 t14 t19 w0 _ ?side1 ?side2 A4.out).mono ?_); (case side1 => exact yj6); (case side2 => exact yj5); rintro e w8 ⟨rfl, hi, hb, hk⟩; refine ⟨_, rfl, ?_⟩; have n0_ := Qz.mk (Qau.trans zK hk (.inl rfl)); have n1_ := Qz.mk (hb); have n2_ := Qz.mk (hi); clear HK; clear HB; clear HI0; have HK := n0_; have HB := n1_; have HI0 := n2_; clear n0_ n1_ n2_; (try clear hb); (try clear hb2); (try clear hk); (try clear hi)) | ((with_reducible refine gate_dst (N := 10) rfl ?_); refine Kd.R_lit (Kd.int .i64) _ 2 ?hg (N := 10) ?hd (xs := ([t16, t15, t14] : List Int)) (inner := [.int .i64 t16, .int .i64 t15, .int .i64 t14]) (ok := fun _ => True) (okp := fun _ => True) ?hr ?hp (fun _ hk => hk) trivial (Below.refl _ _) (Nat.le_refl _) (by simp) ?_; (case hd => rfl); (case hg => rfl); (case hr => exact yj15); (case hp => exact (Reps.one (show Kd.M (Kd.int .i64) _ _ _ t16 [.int .i64 t16] from rfl) (Reps.one (show Kd.M (Kd.int .i64) _ _ _ t15 [.int .i64 t15] from rfl) (Reps.one (show Kd.M (Kd.int .i64) _ _ _ t14 [.int .i64 t14] from rfl) (Reps.none _ _))))); intro v24 w9 ho10 hb hg_ hnew_; clear hg_ hnew_; (first | rw [← Ny17.out] at ho10 | (simp only [Int.reduceToNat] at ho10; rw [← Ny17.out] at ho10)); have n0_ := Qz.mk (Kd.Qan ho10 (keep_size (w := w) (g := g) (row := none) zK)); have n1_ := Qz.mk (IsS101.below yj6 hb); have n2_ := Qz.mk (Qau.trans zK (Qau.of_below hb g none) (.inl rfl)); have n3_ := Qz.mk (Qq yj5 hb); clear HI0; clear HK; clear HB; have HO18 := n0_; have HI0 := n1_; have HK := n2_; have HB := n3_; clear n0_ n1_ n2_ n3_; clear hb ho10; obtain ⟨Ao11, co11, eo11⟩ := Kd.R_slice HO18.out; subst eo11) | ((with_reducible refine gate_callee (f := 68) rfl ?_); refine Qat (some 11) rfl rfl Try.func68 (by kernel_rfl) rfl #[.pointer (some ⟨g, 0, none⟩), .slice Ao11 y17.length co11] rfl zm ?_; (with_reducible refine (Zsl1Pick.calls g s0_0 t19 _ _ y17 t13 t23 w0 _ ?side1 ?side2 ?side3 ?side4 ?side5 A5.out).mono ?_); (case side1 => exact yj6); (case side2 => exact yj5); (case side3 => exact zc (Kd.Qaj HO18.out).2.2); (case side4 => exact (Kd.Qaj HO18.out).2.1); (case side5 => exact far_slice (IsS101.own_ne HI0.out HO18.out (by decide))); rintro e w12 ⟨rfl, hi, hb, hk⟩; refine ⟨_, rfl, ?_⟩; have n0_ := Qz.mk (Kd.Qw (Kd.R_keep (IsS101.apart (show IsS101 w0 _ g s0_0 t19 from by repeat (first | (with_reducible first | exact HI0.out | apply IsS101.alloc | apply IsS101.drewN | apply IsS101.drew | apply IsS101.set_1) | exact HI0.out)) (zr HO18) (by decide)) hk (fun _ h => h.2)) (fun _ h => h.1)); have n1_ := Qz.mk (Qau.trans zK hk (.inl rfl)); have n2_ := Qz.mk (hb); have n3_ := Qz.mk (hi); clear HO18; clear HK; clear HB; clear HI0; have HO18 := n0_; have HK := n1_; have HB := n2_; have HI0 := n3_; clear n0_ n1_ n2_ n3_; (try clear hb); (try clear hb2); (try clear hk); (try clear hi)))
 go_ret
 exact ⟨ze, by repeat (first | (with_reducible first | exact HI0.out | apply IsS101.alloc | apply IsS101.drewN | apply IsS101.drew | apply IsS101.set_1) | exact HI0.out), by repeat (first | (with_reducible first | exact HB.out | apply Qc | apply Qa | apply Qb | refine Qd ?_ (IsS101.ge HI0.out)) | exact HB.out), by repeat (first | (with_reducible first | exact HK.out | apply Qau.set_ | apply keep_drewN | apply keep_drew | apply keep_alloc) | exact HK.out)⟩
set_option maxHeartbeats 8000000 in
set_option maxRecDepth 100000 in
theorem Zsl3Rec.calls (k : Nat) (g : Nat) (s0_0 : List Int) (s0_1 : Int) (r1 : Int) (r2 : Int) (r3 : Int) (r4 : Bool) (r5 : Int) (r6 : Bool) (r7 : Int) (r8 : Int) (r9 : Int) (w0 w : World) (hI : IsS101 w0 w g s0_0 s0_1) (hB : Below w0.heap.size w0 w) (h : Zsl3Rec.f k s0_0 s0_1 = some (r1, r2, r3, r4, r5, r6, r7, r8, r9)) :
 Calls Try.prog 65 #[.pointer (some ⟨g, 0, none⟩)] w fun e w' => e = .returned (.agg #[.int .i64 r1, .int .i64 r2, .int .i64 r3, .bool r4, .int .i64 r5, .bool r6, .int .i64 r7, .int .i64 r8]) ∧ IsS101 w0 w' g s0_0 r9 ∧ Below w0.heap.size w0 w' ∧ Qau w w' g none := by
 have hu48 := Try.underlying48
 have HI0 := Qz.mk hI
 have HK := Qz.mk (Qau.refl w g none)
 have HL := Qz.mk hB.size
 clear hI
 have HW0 := Qz.mk hB.size
 have HB := Qz.mk hB
 clear hB
 have H : ((Zsl1Next.f s0_0 s0_1 5).bind fun bt513 => ((Zsl1Next.f s0_0 bt513.2 4).bind fun bt515 => ((Zsl1Chance.f s0_0 bt515.2 10).bind fun bt518 => (if bt518.1 = true then (some (6, 0, 0, false, 0, false, 0, 0, bt518.2)) else (if (wrap64 (1 + bt513.1)) = 2 then (Zsl3Rec.j0 k true s0_0 bt518.2 (wrap64 (1 + bt513.1)) (wrap64 (1 + bt515.1)) 0 false 0 false 0 0) else (if (wrap64 (1 + bt513.1)) = 5 then (Zsl3Rec.j0 k true s0_0 bt518.2 (wrap64 (1 + bt513.1)) (wrap64 (1 + bt515.1)) 0 false 0 false 0 0) else ((Zsl1Chance.f s0_0 bt518.2 2).bind fun bt520 => (Zsl3Rec.j0 k bt520.1 s0_0 bt520.2 (wrap64 (1 + bt513.1)) (wrap64 (1 + bt515.1)) 0 false 0 false 0 0)))))))) = some (r1, r2, r3, r4, r5, r6, r7, r8, r9) := h
 clear h
 replace H := Option.bind_eq_some_iff.mp H
 obtain ⟨⟨t513, t514⟩, A20, H⟩ := H
 replace H : ((Zsl1Next.f s0_0 t514 4).bind fun bt515 => ((Zsl1Chance.f s0_0 bt515.2 10).bind fun bt518 => (if bt518.1 = true then (some (6, 0, 0, false, 0, false, 0, 0, bt518.2)) else (if (wrap64 (1 + t513)) = 2 then (Zsl3Rec.j0 k true s0_0 bt518.2 (wrap64 (1 + t513)) (wrap64 (1 + bt515.1)) 0 false 0 false 0 0) else (if (wrap64 (1 + t513)) = 5 then (Zsl3Rec.j0 k true s0_0 bt518.2 (wrap64 (1 + t513)) (wrap64 (1 + bt515.1)) 0 false 0 false 0 0) else ((Zsl1Chance.f s0_0 bt518.2 2).bind fun bt520 => (Zsl3Rec.j0 k bt520.1 s0_0 bt520.2 (wrap64 (1 + t513)) (wrap64 (1 + bt515.1)) 0 false 0 false 0 0))))))) = some (r1, r2, r3, r4, r5, r6, r7, r8, r9) := H
 have A2 := Qz.mk A20
 clear A20
 replace H := Option.bind_eq_some_iff.mp H
 obtain ⟨⟨t515, t516⟩, A30, H⟩ := H
 replace H : ((Zsl1Chance.f s0_0 t516 10).bind fun bt518 => (if bt518.1 = true then (some (6, 0, 0, false, 0, false, 0, 0, bt518.2)) else (if (wrap64 (1 + t513)) = 2 then (Zsl3Rec.j0 k true s0_0 bt518.2 (wrap64 (1 + t513)) (wrap64 (1 + t515)) 0 false 0 false 0 0) else (if (wrap64 (1 + t513)) = 5 then (Zsl3Rec.j0 k true s0_0 bt518.2 (wrap64 (1 + t513)) (wrap64 (1 + t515)) 0 false 0 false 0 0) else ((Zsl1Chance.f s0_0 bt518.2 2).bind fun bt520 => (Zsl3Rec.j0 k bt520.1 s0_0 bt520.2 (wrap64 (1 + t513)) (wrap64 (1 + t515)) 0 false 0 false 0 0)))))) = some (r1, r2, r3, r4, r5, r6, r7, r8, r9) := H
 have A3 := Qz.mk A30
 clear A30
 replace H := Option.bind_eq_some_iff.mp H
 obtain ⟨⟨t518, t519⟩, A40, H⟩ := H
 replace H : (if t518 = true then (some (6, 0, 0, false, 0, false, 0, 0, t519)) else (if (wrap64 (1 + t513)) = 2 then (Zsl3Rec.j0 k true s0_0 t519 (wrap64 (1 + t513)) (wrap64 (1 + t515)) 0 false 0 false 0 0) else (if (wrap64 (1 + t513)) = 5 then (Zsl3Rec.j0 k true s0_0 t519 (wrap64 (1 + t513)) (wrap64 (1 + t515)) 0 false 0 false 0 0) else ((Zsl1Chance.f s0_0 t519 2).bind fun bt520 => (Zsl3Rec.j0 k bt520.1 s0_0 bt520.2 (wrap64 (1 + t513)) (wrap64 (1 + t515)) 0 false 0 false 0 0))))) = some (r1, r2, r3, r4, r5, r6, r7, r8, r9) := H
 have A4 := Qz.mk A40
 clear A40
 by_cases c5 : t518 = true
 ·subst c5
  have H1 : (some (6, 0, 0, false, 0, false, 0, 0, t519)) = some (r1, r2, r3, r4, r5, r6, r7, r8, r9) := by rw [if_pos rfl] at H; exact H
  clear H
  have H := H1
  clear H1
  simp only [Option.some.injEq, Prod.mk.injEq] at H
  obtain ⟨rfl, rfl, rfl, rfl, rfl, rfl, rfl, rfl, rfl⟩ := H
  go_enter Try.func65, Try.ntmps65
  go_wp2_with (first | ((with_reducible refine gate_dst (N := 2) rfl ?_); refine box_event ?hg (N := 2) ?hd (cs := #[.int .i64 0, .int .i64 0, .int .i64 0, .bool false, .int .i64 0, .bool false, .int .i64 0, .int .i64 0]) (t := 48) ?hr ?_; (case hd => rfl); (case hg => rfl); (case hr => exact yj15); intro gb512 hg w6 hbox hb; have n0_ := Qz.mk (IsS101.below yj6 hb); have n1_ := Qz.mk (Qau.trans zK (Qau.of_below hb g none) (.inl rfl)); have n2_ := Qz.mk (Qq yj5 hb); have n3_ := Qz.mk (hbox); have n4_ := Qz.mk ((yj19 : w.heap.size ≤ gb512)); have n5_ := Qz.mk ((Nat.le_trans HW0.out (yj19 : w.heap.size ≤ gb512) : w0.heap.size ≤ gb512)); have n6_ := Qz.mk ((yj16 : g ≠ gb512)); have n7_ := Qz.mk ((yj17 : gb512 ≠ g)); clear HI0; clear HK; clear HB; have HI0 := n0_; have HK := n1_; have HB := n2_; have BK512 := n3_; have GW512 := n4_; have GE512 := n5_; have NB0_512 := n6_; have NB512_0 := n7_; clear n0_ n1_ n2_ n3_ n4_ n5_ n6_ n7_; clear hb hbox hg) | ((with_reducible refine gate_callee (f := 64) rfl ?_); refine Qat (some 5) rfl rfl Try.func64 (by kernel_rfl) rfl #[.pointer (some ⟨g, 0, none⟩), .int .i64 5] rfl zm ?_; (with_reducible refine (Zsl1Next.calls g s0_0 s0_1 5 t513 t514 w0 _ ?side1 ?side2 A2.out).mono ?_); (case side1 => exact yj9); (case side2 => exact yj8); rintro e w7 ⟨rfl, hi, hb, hk⟩; refine ⟨_, rfl, ?_⟩; have n0_ := Qz.mk (Qau.blk hk (g' := gb512) (o := .cells #[.int .i64 0, .int .i64 0, .int .i64 0, .bool false, .int .i64 0, .bool false, .int .i64 0, .int .i64 0] 48 (0, 0)) zk NB512_0.out (by simp)); have n1_ := Qz.mk (Qau.trans yj2 hk (.inl rfl)); have n2_ := Qz.mk (hb); have n3_ := Qz.mk (hi); clear BK512; clear HK; clear HB; clear HI0; have BK512 := n0_; have HK := n1_; have HB := n2_; have HI0 := n3_; clear n0_ n1_ n2_ n3_; (try clear hb); (try clear hb2); (try clear hk); (try clear hi)) | ((with_reducible refine gate_callee (f := 64) rfl ?_); refine Qat (some 8) rfl rfl Try.func64 (by kernel_rfl) rfl #[.pointer (some ⟨g, 0, none⟩), .int .i64 4] rfl zm ?_; (with_reducible refine (Zsl1Next.calls g s0_0 t514 4 t515 t516 w0 _ ?side1 ?side2 A3.out).mono ?_); (case side1 => exact yj9); (case side2 => exact yj8); rintro e w8 ⟨rfl, hi, hb, hk⟩; refine ⟨_, rfl, ?_⟩; have n0_ := Qz.mk (Qau.blk hk (g' := gb512) (o := .cells #[.int .i64 0, .int .i64 0, .int .i64 0, .bool false, .int .i64 0, .bool false, .int .i64 0, .int .i64 0] 48 (0, 0)) zk NB512_0.out (by simp)); have n1_ := Qz.mk (Qau.trans yj2 hk (.inl rfl)); have n2_ := Qz.mk (hb); have n3_ := Qz.mk (hi); clear BK512; clear HK; clear HB; clear HI0; have BK512 := n0_; have HK := n1_; have HB := n2_; have HI0 := n3_; clear n0_ n1_ n2_ n3_; (try clear hb); (try clear hb2); (try clear hk); (try clear hi)) | ((with_reducible refine gate_dst (N := 3) rfl ?_); refine box_event ?hg (N := 3) ?hd (cs := #[.int .i64 0, .int .i64 0, .int .i64 0, .bool false, .int .i64 0, .bool false, .int .i64 0, .int .i64 0]) (t := 48) ?hr ?_; (case hd => rfl); (case hg => rfl); (case hr => exact yj15); intro gb517 hg w9 hbox hb; have n0_ := Qz.mk (IsS101.below yj9 hb); have n1_ := Qz.mk (Qi (g := gb512) (o := .cells #[.int .i64 0, .int .i64 0, .int .i64 0, .bool false, .int .i64 0, .bool false, .int .i64 0, .int .i64 0] 48 (0, 0)) zk hb); have n2_ := Qz.mk (Qau.trans yj2 (Qau.of_below hb g none) (.inl rfl)); have n3_ := Qz.mk (Qq yj8 hb); have n4_ := Qz.mk (hbox); have n5_ := Qz.mk ((yj18 : w.heap.size ≤ gb517)); have n6_ := Qz.mk ((Nat.le_trans HW0.out (yj18 : w.heap.size ≤ gb517) : w0.heap.size ≤ gb517)); have n7_ := Qz.mk ((yj20 : gb512 ≠ gb517)); have n8_ := Qz.mk ((yj21 : gb517 ≠ gb512)); have n9_ := Qz.mk ((yj13 : g ≠ gb517)); have n10_ := Qz.mk ((yj14 : gb517 ≠ g)); clear HI0; clear BK512; clear HK; clear HB; have HI0 := n0_; have BK512 := n1_; have HK := n2_; have HB := n3_; have BK517 := n4_; have GW517 := n5_; have GE517 := n6_; have NB512_517 := n7_; have NB517_512 := n8_; have NB0_517 := n9_; have NB517_0 := n10_; clear n0_ n1_ n2_ n3_ n4_ n5_ n6_ n7_ n8_ n9_ n10_; clear hb hbox hg; have hnb10 := NB517_512.out; have hnc10 := NB512_517.out; have hnb11 := NB517_0.out; have hnc11 := NB0_517.out; obtain ⟨z12_0, z12_1, z12_2, z12_3, z12_4, z12_5, z12_6, z12_7, j12_0, j12_1, j12_2, j12_3, j12_4, j12_5, j12_6, j12_7⟩ := Lv.blks8 BK517.out) | ((with_reducible refine gate_callee (f := 66) rfl ?_); refine Qat (some 12) rfl rfl Try.func66 (by kernel_rfl) rfl #[.pointer (some ⟨g, 0, none⟩), .int .i64 10] rfl zm ?_; (with_reducible refine (Zsl1Chance.calls g s0_0 t516 10 true t519 w0 _ ?side1 ?side2 A4.out).mono ?_); (case side1 => exact yj10); (case side2 => exact yj0); rintro e w13 ⟨rfl, hi, hb, hk⟩; refine ⟨_, rfl, ?_⟩; have n0_ := Qz.mk (Qau.blk hk (g' := gb512) (o := .cells #[.int .i64 0, .int .i64 0, .int .i64 0, .bool false, .int .i64 0, .bool false, .int .i64 0, .int .i64 0] 48 (0, 0)) yj11 NB512_0.out (by simp)); have n1_ := Qz.mk (Qau.blk hk (g' := gb517) (o := .cells #[.int .i64 (wrap64 (1 + t513)), .int .i64 (wrap64 (1 + t515)), .int .i64 0, .bool false, .int .i64 0, .bool false, .int .i64 0, .int .i64 0] 48 (0, 0)) yj3 NB517_0.out (by simp)); have n2_ := Qz.mk (Qau.trans yj1 hk (.inl rfl)); have n3_ := Qz.mk (hb); have n4_ := Qz.mk (hi); clear BK512; clear BK517; clear HK; clear HB; clear HI0; have BK512 := n0_; have BK517 := n1_; have HK := n2_; have HB := n3_; have HI0 := n4_; clear n0_ n1_ n2_ n3_ n4_; (try clear hb); (try clear hb2); (try clear hk); (try clear hi); have hnb14 := NB512_0.out; have hnc14 := NB0_512.out; obtain ⟨z15_0, z15_1, z15_2, z15_3, z15_4, z15_5, z15_6, z15_7, j15_0, j15_1, j15_2, j15_3, j15_4, j15_5, j15_6, j15_7⟩ := Lv.blks8 BK512.out))
  refine bodyPost_ret (results_cell_row rfl _ _ gb512 48 #[.int .i64 6, .int .i64 0, .int .i64 0, .bool false, .int .i64 0, .bool false, .int .i64 0, .int .i64 0] (0, 0) _ rfl (by refine zQ ?_; refine Qk (cs := #[.int .i64 6, .int .i64 0, .int .i64 0, .bool false, .int .i64 0, .bool false, .int .i64 0, .int .i64 0]) ?_ 7 _ rfl; refine zQ ?_; refine Qk (cs := #[.int .i64 6, .int .i64 0, .int .i64 0, .bool false, .int .i64 0, .bool false, .int .i64 0, .int .i64 0]) ?_ 6 _ rfl; refine zQ ?_; refine Qk (cs := #[.int .i64 6, .int .i64 0, .int .i64 0, .bool false, .int .i64 0, .bool false, .int .i64 0, .int .i64 0]) ?_ 5 _ rfl; refine zQ ?_; refine Qk (cs := #[.int .i64 6, .int .i64 0, .int .i64 0, .bool false, .int .i64 0, .bool false, .int .i64 0, .int .i64 0]) ?_ 4 _ rfl; refine zQ ?_; refine Qk (cs := #[.int .i64 6, .int .i64 0, .int .i64 0, .bool false, .int .i64 0, .bool false, .int .i64 0, .int .i64 0]) ?_ 3 _ rfl; refine zQ ?_; refine Qk (cs := #[.int .i64 6, .int .i64 0, .int .i64 0, .bool false, .int .i64 0, .bool false, .int .i64 0, .int .i64 0]) ?_ 2 _ rfl; refine zQ ?_; refine Qk (cs := #[.int .i64 6, .int .i64 0, .int .i64 0, .bool false, .int .i64 0, .bool false, .int .i64 0, .int .i64 0]) ?_ 1 _ rfl; refine zQ ?_; refine Qk (cs := #[.int .i64 0, .int .i64 0, .int .i64 0, .bool false, .int .i64 0, .bool false, .int .i64 0, .int .i64 0]) ?_ 0 _ rfl; refine zQ ?_; exact BK512.out) Try.underlying48 rfl (by kernel_rfl)) rfl ?_
  exact ⟨ze, by first | exact (IsS101.far (p := ⟨gb512, 7, none⟩) (IsS101.far (p := ⟨gb512, 6, none⟩) (IsS101.far (p := ⟨gb512, 5, none⟩) (IsS101.far (p := ⟨gb512, 4, none⟩) (IsS101.far (p := ⟨gb512, 3, none⟩) (IsS101.far (p := ⟨gb512, 2, none⟩) (IsS101.far (p := ⟨gb512, 1, none⟩) (IsS101.far (p := ⟨gb512, 0, none⟩) HI0.out NB0_512.out _) NB0_512.out _) NB0_512.out _) NB0_512.out _) NB0_512.out _) NB0_512.out _) NB0_512.out _) NB0_512.out _) | (repeat (first | (with_reducible first | exact HI0.out | apply IsS101.alloc | apply IsS101.drewN | apply IsS101.drew | refine IsS101.far ?_ NB0_512.out _ | refine IsS101.far ?_ NB0_517.out _ | apply IsS101.set_1) | exact HI0.out)), by repeat (first | (with_reducible first | exact HB.out | apply Qc | apply Qa | apply Qb | refine Qd ?_ (IsS101.ge HI0.out) | refine Qd ?_ GE512.out | refine Qd ?_ GE517.out) | exact HB.out), by repeat (first | (with_reducible first | exact HK.out | apply Qau.set_ | apply keep_drewN | apply keep_drew | apply keep_alloc | refine keep_far ?_ GW512.out _ | refine keep_far ?_ GW517.out _) | exact HK.out)⟩
 replace c5 := Bool.eq_false_iff.mpr c5
 subst c5
 have H1 : (if (wrap64 (1 + t513)) = 2 then (Zsl3Rec.j0 k true s0_0 t519 (wrap64 (1 + t513)) (wrap64 (1 + t515)) 0 false 0 false 0 0) else (if (wrap64 (1 + t513)) = 5 then (Zsl3Rec.j0 k true s0_0 t519 (wrap64 (1 + t513)) (wrap64 (1 + t515)) 0 false 0 false 0 0) else ((Zsl1Chance.f s0_0 t519 2).bind fun bt520 => (Zsl3Rec.j0 k bt520.1 s0_0 bt520.2 (wrap64 (1 + t513)) (wrap64 (1 + t515)) 0 false 0 false 0 0)))) = some (r1, r2, r3, r4, r5, r6, r7, r8, r9) := by rw [if_neg (show ¬ (false = true) by decide)] at H; exact H
 clear H
 have H := H1
 clear H1
 have HC16 := Qz.mk H
 clear H
 go_enter Try.func65, Try.ntmps65
 go_upto_region 4 with (first | ((with_reducible refine gate_dst (N := 2) rfl ?_); refine box_event ?hg (N := 2) ?hd (cs := #[.int .i64 0, .int .i64 0, .int .i64 0, .bool false, .int .i64 0, .bool false, .int .i64 0, .int .i64 0]) (t := 48) ?hr ?_; (case hd => rfl); (case hg => rfl); (case hr => exact yj15); intro gb512 hg w17 hbox hb; have n0_ := Qz.mk (IsS101.below yj6 hb); have n1_ := Qz.mk (Qau.trans zK (Qau.of_below hb g none) (.inl rfl)); have n2_ := Qz.mk (Qq yj5 hb); have n3_ := Qz.mk (hbox); have n4_ := Qz.mk ((yj19 : w.heap.size ≤ gb512)); have n5_ := Qz.mk ((Nat.le_trans HW0.out (yj19 : w.heap.size ≤ gb512) : w0.heap.size ≤ gb512)); have n6_ := Qz.mk ((yj16 : g ≠ gb512)); have n7_ := Qz.mk ((yj17 : gb512 ≠ g)); clear HI0; clear HK; clear HB; have HI0 := n0_; have HK := n1_; have HB := n2_; have BK512 := n3_; have GW512 := n4_; have GE512 := n5_; have NB0_512 := n6_; have NB512_0 := n7_; clear n0_ n1_ n2_ n3_ n4_ n5_ n6_ n7_; clear hb hbox hg) | ((with_reducible refine gate_callee (f := 64) rfl ?_); refine Qat (some 5) rfl rfl Try.func64 (by kernel_rfl) rfl #[.pointer (some ⟨g, 0, none⟩), .int .i64 5] rfl zm ?_; (with_reducible refine (Zsl1Next.calls g s0_0 s0_1 5 t513 t514 w0 _ ?side1 ?side2 A2.out).mono ?_); (case side1 => exact yj9); (case side2 => exact yj8); rintro e w18 ⟨rfl, hi, hb, hk⟩; refine ⟨_, rfl, ?_⟩; have n0_ := Qz.mk (Qau.blk hk (g' := gb512) (o := .cells #[.int .i64 0, .int .i64 0, .int .i64 0, .bool false, .int .i64 0, .bool false, .int .i64 0, .int .i64 0] 48 (0, 0)) zk NB512_0.out (by simp)); have n1_ := Qz.mk (Qau.trans yj2 hk (.inl rfl)); have n2_ := Qz.mk (hb); have n3_ := Qz.mk (hi); clear BK512; clear HK; clear HB; clear HI0; have BK512 := n0_; have HK := n1_; have HB := n2_; have HI0 := n3_; clear n0_ n1_ n2_ n3_; (try clear hb); (try clear hb2); (try clear hk); (try clear hi)) | ((with_reducible refine gate_callee (f := 64) rfl ?_); refine Qat (some 8) rfl rfl Try.func64 (by kernel_rfl) rfl #[.pointer (some ⟨g, 0, none⟩), .int .i64 4] rfl zm ?_; (with_reducible refine (Zsl1Next.calls g s0_0 t514 4 t515 t516 w0 _ ?side1 ?side2 A3.out).mono ?_); (case side1 => exact yj9); (case side2 => exact yj8); rintro e w19 ⟨rfl, hi, hb, hk⟩; refine ⟨_, rfl, ?_⟩; have n0_ := Qz.mk (Qau.blk hk (g' := gb512) (o := .cells #[.int .i64 0, .int .i64 0, .int .i64 0, .bool false, .int .i64 0, .bool false, .int .i64 0, .int .i64 0] 48 (0, 0)) zk NB512_0.out (by simp)); have n1_ := Qz.mk (Qau.trans yj2 hk (.inl rfl)); have n2_ := Qz.mk (hb); have n3_ := Qz.mk (hi); clear BK512; clear HK; clear HB; clear HI0; have BK512 := n0_; have HK := n1_; have HB := n2_; have HI0 := n3_; clear n0_ n1_ n2_ n3_; (try clear hb); (try clear hb2); (try clear hk); (try clear hi)) | ((with_reducible refine gate_dst (N := 3) rfl ?_); refine box_event ?hg (N := 3) ?hd (cs := #[.int .i64 0, .int .i64 0, .int .i64 0, .bool false, .int .i64 0, .bool false, .int .i64 0, .int .i64 0]) (t := 48) ?hr ?_; (case hd => rfl); (case hg => rfl); (case hr => exact yj15); intro gb517 hg w20 hbox hb; have n0_ := Qz.mk (IsS101.below yj9 hb); have n1_ := Qz.mk (Qi (g := gb512) (o := .cells #[.int .i64 0, .int .i64 0, .int .i64 0, .bool false, .int .i64 0, .bool false, .int .i64 0, .int .i64 0] 48 (0, 0)) zk hb); have n2_ := Qz.mk (Qau.trans yj2 (Qau.of_below hb g none) (.inl rfl)); have n3_ := Qz.mk (Qq yj8 hb); have n4_ := Qz.mk (hbox); have n5_ := Qz.mk ((yj18 : w.heap.size ≤ gb517)); have n6_ := Qz.mk ((Nat.le_trans HW0.out (yj18 : w.heap.size ≤ gb517) : w0.heap.size ≤ gb517)); have n7_ := Qz.mk ((yj20 : gb512 ≠ gb517)); have n8_ := Qz.mk ((yj21 : gb517 ≠ gb512)); have n9_ := Qz.mk ((yj13 : g ≠ gb517)); have n10_ := Qz.mk ((yj14 : gb517 ≠ g)); clear HI0; clear BK512; clear HK; clear HB; have HI0 := n0_; have BK512 := n1_; have HK := n2_; have HB := n3_; have BK517 := n4_; have GW517 := n5_; have GE517 := n6_; have NB512_517 := n7_; have NB517_512 := n8_; have NB0_517 := n9_; have NB517_0 := n10_; clear n0_ n1_ n2_ n3_ n4_ n5_ n6_ n7_ n8_ n9_ n10_; clear hb hbox hg; have hnb21 := NB517_512.out; have hnc21 := NB512_517.out; have hnb22 := NB517_0.out; have hnc22 := NB0_517.out; obtain ⟨z23_0, z23_1, z23_2, z23_3, z23_4, z23_5, z23_6, z23_7, j23_0, j23_1, j23_2, j23_3, j23_4, j23_5, j23_6, j23_7⟩ := Lv.blks8 BK517.out) | ((with_reducible refine gate_callee (f := 66) rfl ?_); refine Qat (some 12) rfl rfl Try.func66 (by kernel_rfl) rfl #[.pointer (some ⟨g, 0, none⟩), .int .i64 10] rfl zm ?_; (with_reducible refine (Zsl1Chance.calls g s0_0 t516 10 false t519 w0 _ ?side1 ?side2 A4.out).mono ?_); (case side1 => exact yj10); (case side2 => exact yj0); rintro e w24 ⟨rfl, hi, hb, hk⟩; refine ⟨_, rfl, ?_⟩; have n0_ := Qz.mk (Qau.blk hk (g' := gb512) (o := .cells #[.int .i64 0, .int .i64 0, .int .i64 0, .bool false, .int .i64 0, .bool false, .int .i64 0, .int .i64 0] 48 (0, 0)) yj11 NB512_0.out (by simp)); have n1_ := Qz.mk (Qau.blk hk (g' := gb517) (o := .cells #[.int .i64 (wrap64 (1 + t513)), .int .i64 (wrap64 (1 + t515)), .int .i64 0, .bool false, .int .i64 0, .bool false, .int .i64 0, .int .i64 0] 48 (0, 0)) yj3 NB517_0.out (by simp)); have n2_ := Qz.mk (Qau.trans yj1 hk (.inl rfl)); have n3_ := Qz.mk (hb); have n4_ := Qz.mk (hi); clear BK512; clear BK517; clear HK; clear HB; clear HI0; have BK512 := n0_; have BK517 := n1_; have HK := n2_; have HB := n3_; have HI0 := n4_; clear n0_ n1_ n2_ n3_ n4_; (try clear hb); (try clear hb2); (try clear hk); (try clear hi)))
 (try simp only [Act.put, List.setIfInBounds_toArray, List.set_cons_zero, List.set_cons_succ])
 go_cut [25] (fun v25 wc => ∃ (kq : Nat) (x25_15 : Bool) (x103_15 : Int), v25 = .bool x25_15 ∧ Qz (Zsl3Rec.j0 kq x25_15 s0_0 x103_15 (wrap64 (1 + t513)) (wrap64 (1 + t515)) 0 false 0 false 0 0 = some (r1, r2, r3, r4, r5, r6, r7, r8, r9)) ∧ Qz (kq ≤ k) ∧ Qz (wc.heap[gb512]? = some (.cells #[.int .i64 0, .int .i64 0, .int .i64 0, .bool false, .int .i64 0, .bool false, .int .i64 0, .int .i64 0] 48 (0, 0))) ∧ Qz (wc.heap[gb517]? = some (.cells #[.int .i64 (wrap64 (1 + t513)), .int .i64 (wrap64 (1 + t515)), .int .i64 0, .bool false, .int .i64 0, .bool false, .int .i64 0, .int .i64 0] 48 (0, 0))) ∧ Qz (IsS101 w0 wc g s0_0 x103_15) ∧ Qz (Qau w wc g none) ∧ Qz (Below w0.heap.size w0 wc))
 case first =>
  have H := HC16.out
  clear HC16
  by_cases c25 : (wrap64 (1 + t513)) = 2
  ·rw [if_pos c25] at H
   have c25b0 : ((wrap64 (1 + t513)) == 2) = true := beq_iff_eq.mpr c25
   have c25b1 : ((wrap64 (1 + t513)) != 2) = false := bne_eq_false_iff_eq.mpr c25
   clear c25
   (first | rw [c25b0] | (simp only [Qar, Qas]; rw [c25b0]) | skip)
   have H' := Qz.mk H
   clear H
   have hnb26 := NB517_512.out
   have hnc26 := NB512_517.out
   have hnb27 := NB517_0.out
   have hnc27 := NB0_517.out
   obtain ⟨z28_0, z28_1, z28_2, z28_3, z28_4, z28_5, z28_6, z28_7, j28_0, j28_1, j28_2, j28_3, j28_4, j28_5, j28_6, j28_7⟩ := Lv.blks8 BK517.out
   go_wp2
   go_meet
   case rel => exact ⟨_, (true), (t519), zs, H', ⟨by first | omega | exact Nat.le_refl _⟩, ⟨zq BK512⟩, ⟨zq BK517⟩, ⟨by repeat (first | (with_reducible first | exact HI0.out | apply IsS101.alloc | apply IsS101.drewN | apply IsS101.drew | refine IsS101.far ?_ NB0_512.out _ | refine IsS101.far ?_ NB0_517.out _ | apply IsS101.set_1) | exact HI0.out)⟩, ⟨by repeat (first | (with_reducible first | exact HK.out | apply Qau.set_ | apply keep_drewN | apply keep_drew | apply keep_alloc | refine keep_far ?_ GW512.out _ | refine keep_far ?_ GW517.out _) | exact HK.out)⟩, ⟨by repeat (first | (with_reducible first | exact HB.out | apply Qc | apply Qa | apply Qb | refine Qd ?_ (IsS101.ge HI0.out) | refine Qd ?_ GE512.out | refine Qd ?_ GE517.out) | exact HB.out)⟩⟩
  rw [if_neg c25] at H
  have c25b0 : ((wrap64 (1 + t513)) == 2) = false := beq_eq_false_iff_ne.mpr c25
  have c25b1 : ((wrap64 (1 + t513)) != 2) = true := bne_iff_ne.mpr c25
  (first | rw [c25b0] | (simp only [Qar, Qas]; rw [c25b0]) | skip)
  by_cases c29 : (wrap64 (1 + t513)) = 5
  ·rw [if_pos c29] at H
   have c29b0 : ((wrap64 (1 + t513)) == 5) = true := beq_iff_eq.mpr c29
   have c29b1 : ((wrap64 (1 + t513)) != 5) = false := bne_eq_false_iff_eq.mpr c29
   clear c29
   have H' := Qz.mk H
   clear H
   have hnb30 := NB517_512.out
   have hnc30 := NB512_517.out
   have hnb31 := NB517_0.out
   have hnc31 := NB0_517.out
   obtain ⟨z32_0, z32_1, z32_2, z32_3, z32_4, z32_5, z32_6, z32_7, j32_0, j32_1, j32_2, j32_3, j32_4, j32_5, j32_6, j32_7⟩ := Lv.blks8 BK517.out
   go_wp2
   go_meet
   case rel => exact ⟨_, (true), (t519), zs, H', ⟨by first | omega | exact Nat.le_refl _⟩, ⟨zq BK512⟩, ⟨zq BK517⟩, ⟨by repeat (first | (with_reducible first | exact HI0.out | apply IsS101.alloc | apply IsS101.drewN | apply IsS101.drew | refine IsS101.far ?_ NB0_512.out _ | refine IsS101.far ?_ NB0_517.out _ | apply IsS101.set_1) | exact HI0.out)⟩, ⟨by repeat (first | (with_reducible first | exact HK.out | apply Qau.set_ | apply keep_drewN | apply keep_drew | apply keep_alloc | refine keep_far ?_ GW512.out _ | refine keep_far ?_ GW517.out _) | exact HK.out)⟩, ⟨by repeat (first | (with_reducible first | exact HB.out | apply Qc | apply Qa | apply Qb | refine Qd ?_ (IsS101.ge HI0.out) | refine Qd ?_ GE512.out | refine Qd ?_ GE517.out) | exact HB.out)⟩⟩
  rw [if_neg c29] at H
  have c29b0 : ((wrap64 (1 + t513)) == 5) = false := beq_eq_false_iff_ne.mpr c29
  have c29b1 : ((wrap64 (1 + t513)) != 5) = true := bne_iff_ne.mpr c29
  replace H := Option.bind_eq_some_iff.mp H
  obtain ⟨⟨t520, t521⟩, A330, H⟩ := H
  replace H : (Zsl3Rec.j0 k t520 s0_0 t521 (wrap64 (1 + t513)) (wrap64 (1 + t515)) 0 false 0 false 0 0) = some (r1, r2, r3, r4, r5, r6, r7, r8, r9) := H
  have A33 := Qz.mk A330
  clear A330
  have H' := Qz.mk H
  clear H
  have hnb34 := NB517_512.out
  have hnc34 := NB512_517.out
  have hnb35 := NB517_0.out
  have hnc35 := NB0_517.out
  obtain ⟨z36_0, z36_1, z36_2, z36_3, z36_4, z36_5, z36_6, z36_7, j36_0, j36_1, j36_2, j36_3, j36_4, j36_5, j36_6, j36_7⟩ := Lv.blks8 BK517.out
  go_wp2_with (first | (go_at_call 66; (with_reducible refine (Zsl1Chance.calls g s0_0 t519 2 t520 t521 w0 _ ?side1 ?side2 A33.out).mono ?_); (case side1 => exact yj7); (case side2 => exact yj0); rintro e w37 ⟨rfl, hi, hb, hk⟩; have n0_ := Qz.mk (Qau.blk hk (g' := gb512) (o := .cells #[.int .i64 0, .int .i64 0, .int .i64 0, .bool false, .int .i64 0, .bool false, .int .i64 0, .int .i64 0] 48 (0, 0)) zk NB512_0.out (by simp)); have n1_ := Qz.mk (Qau.blk hk (g' := gb517) (o := .cells #[.int .i64 (wrap64 (1 + t513)), .int .i64 (wrap64 (1 + t515)), .int .i64 0, .bool false, .int .i64 0, .bool false, .int .i64 0, .int .i64 0] 48 (0, 0)) zk NB517_0.out (by simp)); have n2_ := Qz.mk (Qau.trans yj1 hk (.inl rfl)); have n3_ := Qz.mk (hb); have n4_ := Qz.mk (hi); clear BK512; clear BK517; clear HK; clear HB; clear HI0; have BK512 := n0_; have BK517 := n1_; have HK := n2_; have HB := n3_; have HI0 := n4_; clear n0_ n1_ n2_ n3_ n4_; (try clear hb); (try clear hb2); (try clear hk); (try clear hi)))
  go_meet
  case rel => exact ⟨_, (t520), (t521), zs, H', ⟨by first | omega | exact Nat.le_refl _⟩, ⟨zq BK512⟩, ⟨zq BK517⟩, ⟨by repeat (first | (with_reducible first | exact HI0.out | apply IsS101.alloc | apply IsS101.drewN | apply IsS101.drew | refine IsS101.far ?_ NB0_512.out _ | refine IsS101.far ?_ NB0_517.out _ | apply IsS101.set_1) | exact HI0.out)⟩, ⟨by repeat (first | (with_reducible first | exact HK.out | apply Qau.set_ | apply keep_drewN | apply keep_drew | apply keep_alloc | refine keep_far ?_ GW512.out _ | refine keep_far ?_ GW517.out _) | exact HK.out)⟩, ⟨by repeat (first | (with_reducible first | exact HB.out | apply Qc | apply Qa | apply Qb | refine Qd ?_ (IsS101.ge HI0.out) | refine Qd ?_ GE512.out | refine Qd ?_ GE517.out) | exact HB.out)⟩⟩
 case rest =>
  clear HC16
  try clear c1
  try clear c2
  try clear p2
  try clear c3
  try clear c5
  try clear c6
  try clear p6
  try clear c10
  try clear c11
  try clear c14
  try clear c21
  try clear c22
  try clear c25
  try clear c25b0
  try clear c25b1
  try clear c26
  try clear c27
  try clear c29
  try clear c29b0
  try clear c29b1
  try clear c30
  try clear c31
  try clear c34
  try clear c35
  try clear z12_0 z12_1 z12_2 z12_3 z12_4 z12_5 z12_6 z12_7
  try clear z15_0 z15_1 z15_2 z15_3 z15_4 z15_5 z15_6 z15_7
  try clear z23_0 z23_1 z23_2 z23_3 z23_4 z23_5 z23_6 z23_7
  try clear z28_0 z28_1 z28_2 z28_3 z28_4 z28_5 z28_6 z28_7
  try clear z32_0 z32_1 z32_2 z32_3 z32_4 z32_5 z32_6 z32_7
  try clear z36_0 z36_1 z36_2 z36_3 z36_4 z36_5 z36_6 z36_7
  try clear j12_0 j12_1 j12_2 j12_3 j12_4 j12_5 j12_6 j12_7
  try clear j15_0 j15_1 j15_2 j15_3 j15_4 j15_5 j15_6 j15_7
  try clear j23_0 j23_1 j23_2 j23_3 j23_4 j23_5 j23_6 j23_7
  try clear j28_0 j28_1 j28_2 j28_3 j28_4 j28_5 j28_6 j28_7
  try clear j32_0 j32_1 j32_2 j32_3 j32_4 j32_5 j32_6 j32_7
  try clear j36_0 j36_1 j36_2 j36_3 j36_4 j36_5 j36_6 j36_7
  obtain ⟨kq, x25_15, x103_15, rfl, HA, HJ15, BK512, BK517, HI0, HK, HB⟩ := hcut
  cases kq with
  | zero => exact absurd HA.out (by simp [Zsl3Rec.j0])
  | succ kj15 =>
   have H := HA.out
   clear HA
   simp only [Zsl3Rec.j0] at H
   by_cases c38 : x25_15 = true
   ·subst c38
    have H1 : ((Zsl1Pick.f s0_0 x103_15 (([2, 2, 5] : List Int))).bind fun bt525 => ((Zsl1DrawKey.f s0_0 bt525.2).bind fun bt527 => ((Zsl1Chance.f s0_0 bt527.2 2).bind fun bt529 => ((Zsl1Chance.f s0_0 bt529.2 4).bind fun bt531 => (if bt529.1 = true then ((Zsl1Next.f s0_0 bt531.2 90).bind fun bt533 => (Zsl3Rec.j1 kj15 s0_0 bt533.2 bt525.1 (wrap64 (1 + t515)) bt527.1 bt529.1 bt533.1 (!bt531.1) 0 0)) else (Zsl3Rec.j1 kj15 s0_0 bt531.2 bt525.1 (wrap64 (1 + t515)) bt527.1 bt529.1 0 (!bt531.1) 0 0)))))) = some (r1, r2, r3, r4, r5, r6, r7, r8, r9) := by rw [if_pos rfl] at H; exact H
    clear H
    have H := H1
    clear H1
    obtain ⟨y522, hy522⟩ : ∃ y_ : List Int, y_ = (([2, 2, 5] : List Int)) := ⟨_, rfl⟩
    replace H : ((Zsl1Pick.f s0_0 x103_15 y522).bind fun bt525 => ((Zsl1DrawKey.f s0_0 bt525.2).bind fun bt527 => ((Zsl1Chance.f s0_0 bt527.2 2).bind fun bt529 => ((Zsl1Chance.f s0_0 bt529.2 4).bind fun bt531 => (if bt529.1 = true then ((Zsl1Next.f s0_0 bt531.2 90).bind fun bt533 => (Zsl3Rec.j1 kj15 s0_0 bt533.2 bt525.1 (wrap64 (1 + t515)) bt527.1 bt529.1 bt533.1 (!bt531.1) 0 0)) else (Zsl3Rec.j1 kj15 s0_0 bt531.2 bt525.1 (wrap64 (1 + t515)) bt527.1 bt529.1 0 (!bt531.1) 0 0)))))) = some (r1, r2, r3, r4, r5, r6, r7, r8, r9) := by first | (rw [hy522]; with_reducible exact H) | (have H2_ := (Option.bind_some _ _).symm.trans H; rw [hy522]; with_reducible exact H2_) | (have H2_ := (Option.bind_some _ _).symm.trans H; with_reducible exact H2_) | with_reducible exact H | (rw [hy522]; exact H) | exact H
    have Ny522 := Qz.mk hy522
    clear hy522
    replace H := Option.bind_eq_some_iff.mp H
    obtain ⟨⟨t525, t526⟩, A390, H⟩ := H
    replace H : ((Zsl1DrawKey.f s0_0 t526).bind fun bt527 => ((Zsl1Chance.f s0_0 bt527.2 2).bind fun bt529 => ((Zsl1Chance.f s0_0 bt529.2 4).bind fun bt531 => (if bt529.1 = true then ((Zsl1Next.f s0_0 bt531.2 90).bind fun bt533 => (Zsl3Rec.j1 kj15 s0_0 bt533.2 t525 (wrap64 (1 + t515)) bt527.1 bt529.1 bt533.1 (!bt531.1) 0 0)) else (Zsl3Rec.j1 kj15 s0_0 bt531.2 t525 (wrap64 (1 + t515)) bt527.1 bt529.1 0 (!bt531.1) 0 0))))) = some (r1, r2, r3, r4, r5, r6, r7, r8, r9) := H
    have A39 := Qz.mk A390
    clear A390
    replace H := Option.bind_eq_some_iff.mp H
    obtain ⟨⟨t527, t528⟩, A400, H⟩ := H
    replace H : ((Zsl1Chance.f s0_0 t528 2).bind fun bt529 => ((Zsl1Chance.f s0_0 bt529.2 4).bind fun bt531 => (if bt529.1 = true then ((Zsl1Next.f s0_0 bt531.2 90).bind fun bt533 => (Zsl3Rec.j1 kj15 s0_0 bt533.2 t525 (wrap64 (1 + t515)) t527 bt529.1 bt533.1 (!bt531.1) 0 0)) else (Zsl3Rec.j1 kj15 s0_0 bt531.2 t525 (wrap64 (1 + t515)) t527 bt529.1 0 (!bt531.1) 0 0)))) = some (r1, r2, r3, r4, r5, r6, r7, r8, r9) := H
    have A40 := Qz.mk A400
    clear A400
    replace H := Option.bind_eq_some_iff.mp H
    obtain ⟨⟨t529, t530⟩, A410, H⟩ := H
    replace H : ((Zsl1Chance.f s0_0 t530 4).bind fun bt531 => (if t529 = true then ((Zsl1Next.f s0_0 bt531.2 90).bind fun bt533 => (Zsl3Rec.j1 kj15 s0_0 bt533.2 t525 (wrap64 (1 + t515)) t527 t529 bt533.1 (!bt531.1) 0 0)) else (Zsl3Rec.j1 kj15 s0_0 bt531.2 t525 (wrap64 (1 + t515)) t527 t529 0 (!bt531.1) 0 0))) = some (r1, r2, r3, r4, r5, r6, r7, r8, r9) := H
    have A41 := Qz.mk A410
    clear A410
    replace H := Option.bind_eq_some_iff.mp H
    obtain ⟨⟨t531, t532⟩, A420, H⟩ := H
    replace H : (if t529 = true then ((Zsl1Next.f s0_0 t532 90).bind fun bt533 => (Zsl3Rec.j1 kj15 s0_0 bt533.2 t525 (wrap64 (1 + t515)) t527 t529 bt533.1 (!t531) 0 0)) else (Zsl3Rec.j1 kj15 s0_0 t532 t525 (wrap64 (1 + t515)) t527 t529 0 (!t531) 0 0)) = some (r1, r2, r3, r4, r5, r6, r7, r8, r9) := H
    have A42 := Qz.mk A420
    clear A420
    have HC43 := Qz.mk H
    clear H
    go_upto_if 41 with (first | ((with_reducible refine gate_dst (N := 27) rfl ?_); refine Kd.R_lit (Kd.int .i64) _ 2 ?hg (N := 27) ?hd (xs := ([2, 2, 5] : List Int)) (inner := [.int .i64 2, .int .i64 2, .int .i64 5]) (ok := fun _ => True) (okp := fun _ => True) ?hr ?hp (fun _ hk => hk) trivial (Below.refl _ _) (Nat.le_refl _) (by simp) ?_; (case hd => rfl); (case hg => rfl); (case hr => exact yj15); (case hp => exact (Reps.one (show Kd.M (Kd.int .i64) _ _ _ 2 [.int .i64 2] from rfl) (Reps.one (show Kd.M (Kd.int .i64) _ _ _ 2 [.int .i64 2] from rfl) (Reps.one (show Kd.M (Kd.int .i64) _ _ _ 5 [.int .i64 5] from rfl) (Reps.none _ _))))); intro v523 w44 ho45 hb hg_ hnew_; clear hg_ hnew_; (first | rw [← Ny522.out] at ho45 | (simp only [Int.reduceToNat] at ho45; rw [← Ny522.out] at ho45)); have n0_ := Qz.mk (Kd.Qan ho45 (keep_size (w := w) (g := g) (row := none) yj1)); have n1_ := Qz.mk (Qi (g := gb512) (o := .cells #[.int .i64 0, .int .i64 0, .int .i64 0, .bool false, .int .i64 0, .bool false, .int .i64 0, .int .i64 0] 48 (0, 0)) zk hb); have n2_ := Qz.mk (Qi (g := gb517) (o := .cells #[.int .i64 (wrap64 (1 + t513)), .int .i64 (wrap64 (1 + t515)), .int .i64 0, .bool false, .int .i64 0, .bool false, .int .i64 0, .int .i64 0] 48 (0, 0)) zk hb); have n3_ := Qz.mk (IsS101.below yj7 hb); have n4_ := Qz.mk (Qau.trans yj1 (Qau.of_below hb g none) (.inl rfl)); have n5_ := Qz.mk (Qq yj0 hb); clear BK512; clear BK517; clear HI0; clear HK; clear HB; have HO524 := n0_; have BK512 := n1_; have BK517 := n2_; have HI0 := n3_; have HK := n4_; have HB := n5_; clear n0_ n1_ n2_ n3_ n4_ n5_; clear hb ho45; obtain ⟨Ao46, co46, eo46⟩ := Kd.R_slice HO524.out; subst eo46) | ((with_reducible refine gate_callee (f := 68) rfl ?_); refine Qat (some 28) rfl rfl Try.func68 (by kernel_rfl) rfl #[.pointer (some ⟨g, 0, none⟩), .slice Ao46 y522.length co46] rfl zm ?_; (with_reducible refine (Zsl1Pick.calls g s0_0 x103_15 _ _ y522 t525 t526 w0 _ ?side1 ?side2 ?side3 ?side4 ?side5 A39.out).mono ?_); (case side1 => exact yj7); (case side2 => exact yj0); (case side3 => exact zc (Kd.Qaj HO524.out).2.2); (case side4 => exact (Kd.Qaj HO524.out).2.1); (case side5 => exact far_slice (IsS101.own_ne HI0.out HO524.out (by decide))); rintro e w47 ⟨rfl, hi, hb, hk⟩; refine ⟨_, rfl, ?_⟩; have n0_ := Qz.mk (Qau.blk hk (g' := gb512) (o := .cells #[.int .i64 0, .int .i64 0, .int .i64 0, .bool false, .int .i64 0, .bool false, .int .i64 0, .int .i64 0] 48 (0, 0)) zk NB512_0.out (by simp)); have n1_ := Qz.mk (Qau.blk hk (g' := gb517) (o := .cells #[.int .i64 (wrap64 (1 + t513)), .int .i64 (wrap64 (1 + t515)), .int .i64 0, .bool false, .int .i64 0, .bool false, .int .i64 0, .int .i64 0] 48 (0, 0)) zk NB517_0.out (by simp)); have n2_ := Qz.mk (Kd.Qw (Kd.R_keep (IsS101.apart (show IsS101 w0 _ g s0_0 x103_15 from by repeat (first | (with_reducible first | exact HI0.out | apply IsS101.alloc | apply IsS101.drewN | apply IsS101.drew | refine IsS101.far ?_ NB0_512.out _ | refine IsS101.far ?_ NB0_517.out _ | apply IsS101.set_1) | exact HI0.out)) (zr HO524) (by decide)) hk (fun _ h => h.2)) (fun _ h => h.1)); have n3_ := Qz.mk (Qau.trans yj1 hk (.inl rfl)); have n4_ := Qz.mk (hb); have n5_ := Qz.mk (hi); clear BK512; clear BK517; clear HO524; clear HK; clear HB; clear HI0; have BK512 := n0_; have BK517 := n1_; have HO524 := n2_; have HK := n3_; have HB := n4_; have HI0 := n5_; clear n0_ n1_ n2_ n3_ n4_ n5_; (try clear hb); (try clear hb2); (try clear hk); (try clear hi); have hnb48 := NB517_512.out; have hnc48 := NB512_517.out; have hnb49 := NB517_0.out; have hnc49 := NB0_517.out; obtain ⟨z50_0, z50_1, z50_2, z50_3, z50_4, z50_5, z50_6, z50_7, j50_0, j50_1, j50_2, j50_3, j50_4, j50_5, j50_6, j50_7⟩ := Lv.blks8 BK517.out) | ((with_reducible refine gate_callee (f := 90) rfl ?_); refine Qat (some 31) rfl rfl Try.func90 (by kernel_rfl) rfl #[.pointer (some ⟨g, 0, none⟩)] rfl zm ?_; (with_reducible refine (Zsl1DrawKey.calls g s0_0 t526 t527 t528 w0 _ ?side1 ?side2 A40.out).mono ?_); (case side1 => first | exact (IsS101.far (p := ⟨gb517, 0, none⟩) HI0.out NB0_517.out _) | (repeat (first | (with_reducible first | exact HI0.out | apply IsS101.alloc | apply IsS101.drewN | apply IsS101.drew | refine IsS101.far ?_ NB0_512.out _ | refine IsS101.far ?_ NB0_517.out _ | apply IsS101.set_1) | exact HI0.out))); (case side2 => exact yj0); rintro e w51 ⟨rfl, hi, hb, hk⟩; refine ⟨_, rfl, ?_⟩; have n0_ := Qz.mk (Qau.blk hk (g' := gb512) (o := .cells #[.int .i64 0, .int .i64 0, .int .i64 0, .bool false, .int .i64 0, .bool false, .int .i64 0, .int .i64 0] 48 (0, 0)) yj12 NB512_0.out (by simp)); have n1_ := Qz.mk (Qau.blk hk (g' := gb517) (o := .cells #[.int .i64 t525, .int .i64 (wrap64 (1 + t515)), .int .i64 0, .bool false, .int .i64 0, .bool false, .int .i64 0, .int .i64 0] 48 (0, 0)) (by refine zQ ?_; refine Qk (cs := #[.int .i64 (wrap64 (1 + t513)), .int .i64 (wrap64 (1 + t515)), .int .i64 0, .bool false, .int .i64 0, .bool false, .int .i64 0, .int .i64 0]) ?_ 0 _ rfl; refine zQ ?_; exact BK517.out) NB517_0.out (by simp)); have n2_ := Qz.mk (Kd.Qw (Kd.R_keep (IsS101.apart (show IsS101 w0 _ g s0_0 t526 from by first | exact (IsS101.far (p := ⟨gb517, 0, none⟩) HI0.out NB0_517.out _) | (repeat (first | (with_reducible first | exact HI0.out | apply IsS101.alloc | apply IsS101.drewN | apply IsS101.drew | refine IsS101.far ?_ NB0_512.out _ | refine IsS101.far ?_ NB0_517.out _ | apply IsS101.set_1) | exact HI0.out))) (by refine zR ?_; exact (Kd.Qw (Kd.Qx (p := ⟨gb517, 0, none⟩) (Kd.Qai HO524.out BK517.out (by decide)) (fun _ hk => hk.2) (.int .i64 t525)) (fun _ h_ => h_.1))) (by decide)) hk (fun _ h => h.2)) (fun _ h => h.1)); have n3_ := Qz.mk (Qau.trans yj1 hk (.inl rfl)); have n4_ := Qz.mk (hb); have n5_ := Qz.mk (hi); clear BK512; clear BK517; clear HO524; clear HK; clear HB; clear HI0; have BK512 := n0_; have BK517 := n1_; have HO524 := n2_; have HK := n3_; have HB := n4_; have HI0 := n5_; clear n0_ n1_ n2_ n3_ n4_ n5_; (try clear hb); (try clear hb2); (try clear hk); (try clear hi); obtain ⟨z52_0, z52_1, z52_2, z52_3, z52_4, z52_5, z52_6, z52_7, j52_0, j52_1, j52_2, j52_3, j52_4, j52_5, j52_6, j52_7⟩ := Lv.blks8 BK517.out) | ((with_reducible refine gate_callee (f := 66) rfl ?_); refine Qat (some 34) rfl rfl Try.func66 (by kernel_rfl) rfl #[.pointer (some ⟨g, 0, none⟩), .int .i64 2] rfl zm ?_; (with_reducible refine (Zsl1Chance.calls g s0_0 t528 2 t529 t530 w0 _ ?side1 ?side2 A41.out).mono ?_); (case side1 => first | exact (IsS101.far (p := ⟨gb517, 2, none⟩) HI0.out NB0_517.out _) | (repeat (first | (with_reducible first | exact HI0.out | apply IsS101.alloc | apply IsS101.drewN | apply IsS101.drew | refine IsS101.far ?_ NB0_512.out _ | refine IsS101.far ?_ NB0_517.out _ | apply IsS101.set_1) | exact HI0.out))); (case side2 => exact yj0); rintro e w53 ⟨rfl, hi, hb, hk⟩; refine ⟨_, rfl, ?_⟩; have n0_ := Qz.mk (Qau.blk hk (g' := gb512) (o := .cells #[.int .i64 0, .int .i64 0, .int .i64 0, .bool false, .int .i64 0, .bool false, .int .i64 0, .int .i64 0] 48 (0, 0)) yj12 NB512_0.out (by simp)); have n1_ := Qz.mk (Qau.blk hk (g' := gb517) (o := .cells #[.int .i64 t525, .int .i64 (wrap64 (1 + t515)), .int .i64 t527, .bool false, .int .i64 0, .bool false, .int .i64 0, .int .i64 0] 48 (0, 0)) (by refine zQ ?_; refine Qk (cs := #[.int .i64 t525, .int .i64 (wrap64 (1 + t515)), .int .i64 0, .bool false, .int .i64 0, .bool false, .int .i64 0, .int .i64 0]) ?_ 2 _ rfl; refine zQ ?_; exact BK517.out) NB517_0.out (by simp)); have n2_ := Qz.mk (Kd.Qw (Kd.R_keep (IsS101.apart (show IsS101 w0 _ g s0_0 t528 from by first | exact (IsS101.far (p := ⟨gb517, 2, none⟩) HI0.out NB0_517.out _) | (repeat (first | (with_reducible first | exact HI0.out | apply IsS101.alloc | apply IsS101.drewN | apply IsS101.drew | refine IsS101.far ?_ NB0_512.out _ | refine IsS101.far ?_ NB0_517.out _ | apply IsS101.set_1) | exact HI0.out))) (by refine zR ?_; exact (Kd.Qw (Kd.Qx (p := ⟨gb517, 2, none⟩) (Kd.Qai HO524.out BK517.out (by decide)) (fun _ hk => hk.2) (.int .i64 t527)) (fun _ h_ => h_.1))) (by decide)) hk (fun _ h => h.2)) (fun _ h => h.1)); have n3_ := Qz.mk (Qau.trans yj1 hk (.inl rfl)); have n4_ := Qz.mk (hb); have n5_ := Qz.mk (hi); clear BK512; clear BK517; clear HO524; clear HK; clear HB; clear HI0; have BK512 := n0_; have BK517 := n1_; have HO524 := n2_; have HK := n3_; have HB := n4_; have HI0 := n5_; clear n0_ n1_ n2_ n3_ n4_ n5_; (try clear hb); (try clear hb2); (try clear hk); (try clear hi); obtain ⟨z54_0, z54_1, z54_2, z54_3, z54_4, z54_5, z54_6, z54_7, j54_0, j54_1, j54_2, j54_3, j54_4, j54_5, j54_6, j54_7⟩ := Lv.blks8 BK517.out) | ((with_reducible refine gate_callee (f := 66) rfl ?_); refine Qat (some 37) rfl rfl Try.func66 (by kernel_rfl) rfl #[.pointer (some ⟨g, 0, none⟩), .int .i64 4] rfl zm ?_; (with_reducible refine (Zsl1Chance.calls g s0_0 t530 4 t531 t532 w0 _ ?side1 ?side2 A42.out).mono ?_); (case side1 => first | exact (IsS101.far (p := ⟨gb517, 3, none⟩) HI0.out NB0_517.out _) | (repeat (first | (with_reducible first | exact HI0.out | apply IsS101.alloc | apply IsS101.drewN | apply IsS101.drew | refine IsS101.far ?_ NB0_512.out _ | refine IsS101.far ?_ NB0_517.out _ | apply IsS101.set_1) | exact HI0.out))); (case side2 => exact yj0); rintro e w55 ⟨rfl, hi, hb, hk⟩; refine ⟨_, rfl, ?_⟩; have n0_ := Qz.mk (Qau.blk hk (g' := gb512) (o := .cells #[.int .i64 0, .int .i64 0, .int .i64 0, .bool false, .int .i64 0, .bool false, .int .i64 0, .int .i64 0] 48 (0, 0)) yj12 NB512_0.out (by simp)); have n1_ := Qz.mk (Qau.blk hk (g' := gb517) (o := .cells #[.int .i64 t525, .int .i64 (wrap64 (1 + t515)), .int .i64 t527, .bool t529, .int .i64 0, .bool false, .int .i64 0, .int .i64 0] 48 (0, 0)) (by refine zQ ?_; refine Qk (cs := #[.int .i64 t525, .int .i64 (wrap64 (1 + t515)), .int .i64 t527, .bool false, .int .i64 0, .bool false, .int .i64 0, .int .i64 0]) ?_ 3 _ rfl; refine zQ ?_; exact BK517.out) NB517_0.out (by simp)); have n2_ := Qz.mk (Kd.Qw (Kd.R_keep (IsS101.apart (show IsS101 w0 _ g s0_0 t530 from by first | exact (IsS101.far (p := ⟨gb517, 3, none⟩) HI0.out NB0_517.out _) | (repeat (first | (with_reducible first | exact HI0.out | apply IsS101.alloc | apply IsS101.drewN | apply IsS101.drew | refine IsS101.far ?_ NB0_512.out _ | refine IsS101.far ?_ NB0_517.out _ | apply IsS101.set_1) | exact HI0.out))) (by refine zR ?_; exact (Kd.Qw (Kd.Qx (p := ⟨gb517, 3, none⟩) (Kd.Qai HO524.out BK517.out (by decide)) (fun _ hk => hk.2) (.bool t529)) (fun _ h_ => h_.1))) (by decide)) hk (fun _ h => h.2)) (fun _ h => h.1)); have n3_ := Qz.mk (Qau.trans yj1 hk (.inl rfl)); have n4_ := Qz.mk (hb); have n5_ := Qz.mk (hi); clear BK512; clear BK517; clear HO524; clear HK; clear HB; clear HI0; have BK512 := n0_; have BK517 := n1_; have HO524 := n2_; have HK := n3_; have HB := n4_; have HI0 := n5_; clear n0_ n1_ n2_ n3_ n4_ n5_; (try clear hb); (try clear hb2); (try clear hk); (try clear hi); obtain ⟨z56_0, z56_1, z56_2, z56_3, z56_4, z56_5, z56_6, z56_7, j56_0, j56_1, j56_2, j56_3, j56_4, j56_5, j56_6, j56_7⟩ := Lv.blks8 BK517.out))
    (try simp only [Act.put, List.setIfInBounds_toArray, List.set_cons_zero, List.set_cons_succ])
    go_cut [] (fun wc => ∃ (kq : Nat) (x103_42 : Int) (x102_42 : Int), Qz (Zsl3Rec.j1 kq s0_0 x103_42 t525 (wrap64 (1 + t515)) t527 t529 x102_42 (!t531) 0 0 = some (r1, r2, r3, r4, r5, r6, r7, r8, r9)) ∧ Qz (kq ≤ kj15) ∧ Qz (wc.heap[gb512]? = some (.cells #[.int .i64 0, .int .i64 0, .int .i64 0, .bool false, .int .i64 0, .bool false, .int .i64 0, .int .i64 0] 48 (0, 0))) ∧ Qz (wc.heap[gb517]? = some (.cells #[.int .i64 t525, .int .i64 (wrap64 (1 + t515)), .int .i64 t527, .bool t529, .int .i64 x102_42, .bool (!t531), .int .i64 0, .int .i64 0] 48 (0, 0))) ∧ Qz (IsS101 w0 wc g s0_0 x103_42) ∧ Qz (Qau w wc g none) ∧ Qz (Below w0.heap.size w0 wc))
    case first =>
     have H := HC43.out
     clear HC43
     by_cases c57 : t529 = true
     ·subst c57
      have H1 : ((Zsl1Next.f s0_0 t532 90).bind fun bt533 => (Zsl3Rec.j1 kj15 s0_0 bt533.2 t525 (wrap64 (1 + t515)) t527 true bt533.1 (!t531) 0 0)) = some (r1, r2, r3, r4, r5, r6, r7, r8, r9) := by rw [if_pos rfl] at H; exact H
      clear H
      have H := H1
      clear H1
      replace H := Option.bind_eq_some_iff.mp H
      obtain ⟨⟨t533, t534⟩, A580, H⟩ := H
      replace H : (Zsl3Rec.j1 kj15 s0_0 t534 t525 (wrap64 (1 + t515)) t527 true t533 (!t531) 0 0) = some (r1, r2, r3, r4, r5, r6, r7, r8, r9) := H
      have A58 := Qz.mk A580
      clear A580
      have H' := Qz.mk H
      clear H
      go_wp2_with (first | ((with_reducible refine gate_callee (f := 64) rfl ?_); refine Qat (some 43) rfl rfl Try.func64 (by kernel_rfl) rfl #[.pointer (some ⟨g, 0, none⟩), .int .i64 90] rfl zm ?_; (with_reducible refine (Zsl1Next.calls g s0_0 t532 90 t533 t534 w0 _ ?side1 ?side2 A58.out).mono ?_); (case side1 => first | exact (IsS101.far (p := ⟨gb517, 5, none⟩) HI0.out NB0_517.out _) | (repeat (first | (with_reducible first | exact HI0.out | apply IsS101.alloc | apply IsS101.drewN | apply IsS101.drew | refine IsS101.far ?_ NB0_512.out _ | refine IsS101.far ?_ NB0_517.out _ | apply IsS101.set_1) | exact HI0.out))); (case side2 => exact yj0); rintro e w59 ⟨rfl, hi, hb, hk⟩; refine ⟨_, rfl, ?_⟩; have n0_ := Qz.mk (Qau.blk hk (g' := gb512) (o := .cells #[.int .i64 0, .int .i64 0, .int .i64 0, .bool false, .int .i64 0, .bool false, .int .i64 0, .int .i64 0] 48 (0, 0)) yj12 NB512_0.out (by simp)); have n1_ := Qz.mk (Qau.blk hk (g' := gb517) (o := .cells #[.int .i64 t525, .int .i64 (wrap64 (1 + t515)), .int .i64 t527, .bool true, .int .i64 0, .bool (!t531), .int .i64 0, .int .i64 0] 48 (0, 0)) (by refine zQ ?_; refine Qk (cs := #[.int .i64 t525, .int .i64 (wrap64 (1 + t515)), .int .i64 t527, .bool true, .int .i64 0, .bool false, .int .i64 0, .int .i64 0]) ?_ 5 _ rfl; refine zQ ?_; exact BK517.out) NB517_0.out (by simp)); have n2_ := Qz.mk (Kd.Qw (Kd.R_keep (IsS101.apart (show IsS101 w0 _ g s0_0 t532 from by first | exact (IsS101.far (p := ⟨gb517, 5, none⟩) HI0.out NB0_517.out _) | (repeat (first | (with_reducible first | exact HI0.out | apply IsS101.alloc | apply IsS101.drewN | apply IsS101.drew | refine IsS101.far ?_ NB0_512.out _ | refine IsS101.far ?_ NB0_517.out _ | apply IsS101.set_1) | exact HI0.out))) (by refine zR ?_; exact (Kd.Qw (Kd.Qx (p := ⟨gb517, 5, none⟩) (Kd.Qai HO524.out BK517.out (by decide)) (fun _ hk => hk.2) (.bool (!t531))) (fun _ h_ => h_.1))) (by decide)) hk (fun _ h => h.2)) (fun _ h => h.1)); have n3_ := Qz.mk (Qau.trans yj1 hk (.inl rfl)); have n4_ := Qz.mk (hb); have n5_ := Qz.mk (hi); clear BK512; clear BK517; clear HO524; clear HK; clear HB; clear HI0; have BK512 := n0_; have BK517 := n1_; have HO524 := n2_; have HK := n3_; have HB := n4_; have HI0 := n5_; clear n0_ n1_ n2_ n3_ n4_ n5_; (try clear hb); (try clear hb2); (try clear hk); (try clear hi); have hnb60 := NB517_512.out; have hnc60 := NB512_517.out; have hnb61 := NB517_0.out; have hnc61 := NB0_517.out; obtain ⟨z62_0, z62_1, z62_2, z62_3, z62_4, z62_5, z62_6, z62_7, j62_0, j62_1, j62_2, j62_3, j62_4, j62_5, j62_6, j62_7⟩ := Lv.blks8 BK517.out))
      go_meet
      case rel => exact ⟨_, (t534), (t533), H', ⟨by have := HJ15.out; first | omega | exact Nat.le_refl _⟩, ⟨by refine zQ ?_; refine blk_far ?_ NB512_517.out _; refine zQ ?_; exact BK512.out⟩, ⟨by refine zQ ?_; refine Qk (cs := #[.int .i64 t525, .int .i64 (wrap64 (1 + t515)), .int .i64 t527, .bool true, .int .i64 0, .bool (!t531), .int .i64 0, .int .i64 0]) ?_ 4 _ rfl; refine zQ ?_; exact BK517.out⟩, ⟨by first | exact (IsS101.far (p := ⟨gb517, 4, none⟩) HI0.out NB0_517.out _) | (repeat (first | (with_reducible first | exact HI0.out | apply IsS101.alloc | apply IsS101.drewN | apply IsS101.drew | refine IsS101.far ?_ NB0_512.out _ | refine IsS101.far ?_ NB0_517.out _ | apply IsS101.set_1) | exact HI0.out))⟩, ⟨by repeat (first | (with_reducible first | exact HK.out | apply Qau.set_ | apply keep_drewN | apply keep_drew | apply keep_alloc | refine keep_far ?_ GW512.out _ | refine keep_far ?_ GW517.out _) | exact HK.out)⟩, ⟨by repeat (first | (with_reducible first | exact HB.out | apply Qc | apply Qa | apply Qb | refine Qd ?_ (IsS101.ge HI0.out) | refine Qd ?_ GE512.out | refine Qd ?_ GE517.out) | exact HB.out)⟩⟩
     replace c57 := Bool.eq_false_iff.mpr c57
     subst c57
     have H1 : (Zsl3Rec.j1 kj15 s0_0 t532 t525 (wrap64 (1 + t515)) t527 false 0 (!t531) 0 0) = some (r1, r2, r3, r4, r5, r6, r7, r8, r9) := by rw [if_neg (show ¬ (false = true) by decide)] at H; exact H
     clear H
     have H := H1
     clear H1
     have H' := Qz.mk H
     clear H
     go_wp2
     go_meet
     case rel => exact ⟨_, (t532), (0), H', ⟨by have := HJ15.out; first | omega | exact Nat.le_refl _⟩, ⟨by refine zQ ?_; refine blk_far ?_ NB512_517.out _; refine zQ ?_; exact BK512.out⟩, ⟨by refine zQ ?_; refine Qk (cs := #[.int .i64 t525, .int .i64 (wrap64 (1 + t515)), .int .i64 t527, .bool false, .int .i64 0, .bool false, .int .i64 0, .int .i64 0]) ?_ 5 _ rfl; refine zQ ?_; exact BK517.out⟩, ⟨by first | exact (IsS101.far (p := ⟨gb517, 5, none⟩) HI0.out NB0_517.out _) | (repeat (first | (with_reducible first | exact HI0.out | apply IsS101.alloc | apply IsS101.drewN | apply IsS101.drew | refine IsS101.far ?_ NB0_512.out _ | refine IsS101.far ?_ NB0_517.out _ | apply IsS101.set_1) | exact HI0.out))⟩, ⟨by repeat (first | (with_reducible first | exact HK.out | apply Qau.set_ | apply keep_drewN | apply keep_drew | apply keep_alloc | refine keep_far ?_ GW512.out _ | refine keep_far ?_ GW517.out _) | exact HK.out)⟩, ⟨by repeat (first | (with_reducible first | exact HB.out | apply Qc | apply Qa | apply Qb | refine Qd ?_ (IsS101.ge HI0.out) | refine Qd ?_ GE512.out | refine Qd ?_ GE517.out) | exact HB.out)⟩⟩
    case rest =>
     clear HC43
     try clear c1
     try clear c2
     try clear p2
     try clear c3
     try clear c4
     try clear c5
     try clear c6
     try clear p6
     try clear c9
     try clear c10
     try clear c11
     try clear c14
     try clear c21
     try clear c22
     try clear c25
     try clear c25b0
     try clear c25b1
     try clear c26
     try clear c27
     try clear c29
     try clear c29b0
     try clear c29b1
     try clear c30
     try clear c31
     try clear c34
     try clear c35
     try clear c38
     try clear c48
     try clear c49
     try clear c57
     try clear c60
     try clear c61
     try clear z12_0 z12_1 z12_2 z12_3 z12_4 z12_5 z12_6 z12_7
     try clear z15_0 z15_1 z15_2 z15_3 z15_4 z15_5 z15_6 z15_7
     try clear z23_0 z23_1 z23_2 z23_3 z23_4 z23_5 z23_6 z23_7
     try clear z28_0 z28_1 z28_2 z28_3 z28_4 z28_5 z28_6 z28_7
     try clear z32_0 z32_1 z32_2 z32_3 z32_4 z32_5 z32_6 z32_7
     try clear z36_0 z36_1 z36_2 z36_3 z36_4 z36_5 z36_6 z36_7
     try clear z50_0 z50_1 z50_2 z50_3 z50_4 z50_5 z50_6 z50_7
     try clear z52_0 z52_1 z52_2 z52_3 z52_4 z52_5 z52_6 z52_7
     try clear z54_0 z54_1 z54_2 z54_3 z54_4 z54_5 z54_6 z54_7
     try clear z56_0 z56_1 z56_2 z56_3 z56_4 z56_5 z56_6 z56_7
     try clear z62_0 z62_1 z62_2 z62_3 z62_4 z62_5 z62_6 z62_7
     try clear j12_0 j12_1 j12_2 j12_3 j12_4 j12_5 j12_6 j12_7
     try clear j15_0 j15_1 j15_2 j15_3 j15_4 j15_5 j15_6 j15_7
     try clear j23_0 j23_1 j23_2 j23_3 j23_4 j23_5 j23_6 j23_7
     try clear j28_0 j28_1 j28_2 j28_3 j28_4 j28_5 j28_6 j28_7
     try clear j32_0 j32_1 j32_2 j32_3 j32_4 j32_5 j32_6 j32_7
     try clear j36_0 j36_1 j36_2 j36_3 j36_4 j36_5 j36_6 j36_7
     try clear j50_0 j50_1 j50_2 j50_3 j50_4 j50_5 j50_6 j50_7
     try clear j52_0 j52_1 j52_2 j52_3 j52_4 j52_5 j52_6 j52_7
     try clear j54_0 j54_1 j54_2 j54_3 j54_4 j54_5 j54_6 j54_7
     try clear j56_0 j56_1 j56_2 j56_3 j56_4 j56_5 j56_6 j56_7
     try clear j62_0 j62_1 j62_2 j62_3 j62_4 j62_5 j62_6 j62_7
     try clear p2
     try clear p6
     obtain ⟨kq, x103_42, x102_42, HA, HJ42, BK512, BK517, HI0, HK, HB⟩ := hcut
     cases kq with
     | zero => exact absurd HA.out (by simp [Zsl3Rec.j1])
     | succ kj42 =>
      have H := HA.out
      clear HA
      simp only [Zsl3Rec.j1] at H
      by_cases c63 : (!t531) = true
      ·rw [if_pos c63] at H
       obtain rfl : t531 = false := by simpa using c63
       have c63b0 : (!false) = true := rfl
       clear c63
       replace H := Option.bind_eq_some_iff.mp H
       obtain ⟨⟨t535, t536⟩, A640, H⟩ := H
       replace H : (if t525 = 5 then ((Zsl1Next.f s0_0 t536 6).bind fun bt537 => (some (t525, (wrap64 (1 + t515)), t527, t529, x102_42, (!false), t535, wrap64 (1 + bt537.1), bt537.2))) else (some (t525, (wrap64 (1 + t515)), t527, t529, x102_42, (!false), t535, 0, t536))) = some (r1, r2, r3, r4, r5, r6, r7, r8, r9) := H
       have A64 := Qz.mk A640
       clear A640
       by_cases c65 : t525 = 5
       ·rw [if_pos c65] at H
        have c65b0 : (t525 == 5) = true := beq_iff_eq.mpr c65
        have c65b1 : (t525 != 5) = false := bne_eq_false_iff_eq.mpr c65
        clear c65
        replace H := Option.bind_eq_some_iff.mp H
        obtain ⟨⟨t537, t538⟩, A660, H⟩ := H
        replace H : (some (t525, (wrap64 (1 + t515)), t527, t529, x102_42, (!false), t535, wrap64 (1 + t537), t538)) = some (r1, r2, r3, r4, r5, r6, r7, r8, r9) := H
        have A66 := Qz.mk A660
        clear A660
        simp only [Option.some.injEq, Prod.mk.injEq] at H
        obtain ⟨rfl, rfl, rfl, rfl, rfl, rfl, rfl, rfl, rfl⟩ := H
        have hnb67 := NB517_512.out
        have hnc67 := NB512_517.out
        have hnb68 := NB517_0.out
        have hnc68 := NB0_517.out
        obtain ⟨z69_0, z69_1, z69_2, z69_3, z69_4, z69_5, z69_6, z69_7, j69_0, j69_1, j69_2, j69_3, j69_4, j69_5, j69_6, j69_7⟩ := Lv.blks8 BK517.out
        go_wp2_with (first | ((with_reducible refine gate_callee (f := 64) rfl ?_); refine Qat (some 48) rfl rfl Try.func64 (by kernel_rfl) rfl #[.pointer (some ⟨g, 0, none⟩), .int .i64 90] rfl zm ?_; (with_reducible refine (Zsl1Next.calls g s0_0 x103_42 90 t535 t536 w0 _ ?side1 ?side2 A64.out).mono ?_); (case side1 => exact yj7); (case side2 => exact yj0); rintro e w70 ⟨rfl, hi, hb, hk⟩; refine ⟨_, rfl, ?_⟩; have n0_ := Qz.mk (Qau.blk hk (g' := gb512) (o := .cells #[.int .i64 0, .int .i64 0, .int .i64 0, .bool false, .int .i64 0, .bool false, .int .i64 0, .int .i64 0] 48 (0, 0)) zk NB512_0.out (by simp)); have n1_ := Qz.mk (Qau.blk hk (g' := gb517) (o := .cells #[.int .i64 t525, .int .i64 (wrap64 (1 + t515)), .int .i64 t527, .bool t529, .int .i64 x102_42, .bool (!false), .int .i64 0, .int .i64 0] 48 (0, 0)) zk NB517_0.out (by simp)); have n2_ := Qz.mk (Qau.trans yj1 hk (.inl rfl)); have n3_ := Qz.mk (hb); have n4_ := Qz.mk (hi); clear BK512; clear BK517; clear HK; clear HB; clear HI0; have BK512 := n0_; have BK517 := n1_; have HK := n2_; have HB := n3_; have HI0 := n4_; clear n0_ n1_ n2_ n3_ n4_; (try clear hb); (try clear hb2); (try clear hk); (try clear hi); obtain ⟨z71_0, z71_1, z71_2, z71_3, z71_4, z71_5, z71_6, z71_7, j71_0, j71_1, j71_2, j71_3, j71_4, j71_5, j71_6, j71_7⟩ := Lv.blks8 BK517.out) | ((with_reducible refine gate_callee (f := 64) rfl ?_); refine Qat (some 54) rfl rfl Try.func64 (by kernel_rfl) rfl #[.pointer (some ⟨g, 0, none⟩), .int .i64 6] rfl zm ?_; (with_reducible refine (Zsl1Next.calls g s0_0 t536 6 t537 t538 w0 _ ?side1 ?side2 A66.out).mono ?_); (case side1 => first | exact (IsS101.far (p := ⟨gb517, 6, none⟩) HI0.out NB0_517.out _) | (repeat (first | (with_reducible first | exact HI0.out | apply IsS101.alloc | apply IsS101.drewN | apply IsS101.drew | refine IsS101.far ?_ NB0_512.out _ | refine IsS101.far ?_ NB0_517.out _ | apply IsS101.set_1) | exact HI0.out))); (case side2 => exact yj0); rintro e w72 ⟨rfl, hi, hb, hk⟩; refine ⟨_, rfl, ?_⟩; have n0_ := Qz.mk (Qau.blk hk (g' := gb512) (o := .cells #[.int .i64 0, .int .i64 0, .int .i64 0, .bool false, .int .i64 0, .bool false, .int .i64 0, .int .i64 0] 48 (0, 0)) yj12 NB512_0.out (by simp)); have n1_ := Qz.mk (Qau.blk hk (g' := gb517) (o := .cells #[.int .i64 t525, .int .i64 (wrap64 (1 + t515)), .int .i64 t527, .bool t529, .int .i64 x102_42, .bool (!false), .int .i64 t535, .int .i64 0] 48 (0, 0)) (by refine zQ ?_; refine Qk (cs := #[.int .i64 t525, .int .i64 (wrap64 (1 + t515)), .int .i64 t527, .bool t529, .int .i64 x102_42, .bool (!false), .int .i64 0, .int .i64 0]) ?_ 6 _ rfl; refine zQ ?_; exact BK517.out) NB517_0.out (by simp)); have n2_ := Qz.mk (Qau.trans yj1 hk (.inl rfl)); have n3_ := Qz.mk (hb); have n4_ := Qz.mk (hi); clear BK512; clear BK517; clear HK; clear HB; clear HI0; have BK512 := n0_; have BK517 := n1_; have HK := n2_; have HB := n3_; have HI0 := n4_; clear n0_ n1_ n2_ n3_ n4_; (try clear hb); (try clear hb2); (try clear hk); (try clear hi); obtain ⟨z73_0, z73_1, z73_2, z73_3, z73_4, z73_5, z73_6, z73_7, j73_0, j73_1, j73_2, j73_3, j73_4, j73_5, j73_6, j73_7⟩ := Lv.blks8 BK517.out; have hnb74 := NB512_0.out; have hnc74 := NB0_512.out; obtain ⟨z75_0, z75_1, z75_2, z75_3, z75_4, z75_5, z75_6, z75_7, j75_0, j75_1, j75_2, j75_3, j75_4, j75_5, j75_6, j75_7⟩ := Lv.blks8 BK512.out))
        refine bodyPost_ret (results_cell_row rfl _ _ gb512 48 #[.int .i64 t525, .int .i64 (wrap64 (1 + t515)), .int .i64 t527, .bool t529, .int .i64 x102_42, .bool (!false), .int .i64 t535, .int .i64 (wrap64 (1 + t537))] (0, 0) _ rfl yj4 Try.underlying48 rfl (by kernel_rfl)) rfl ?_
        exact ⟨ze, by first | exact (IsS101.far (p := ⟨gb512, 7, none⟩) (IsS101.far (p := ⟨gb512, 6, none⟩) (IsS101.far (p := ⟨gb512, 5, none⟩) (IsS101.far (p := ⟨gb512, 4, none⟩) (IsS101.far (p := ⟨gb512, 3, none⟩) (IsS101.far (p := ⟨gb512, 2, none⟩) (IsS101.far (p := ⟨gb512, 1, none⟩) (IsS101.far (p := ⟨gb512, 0, none⟩) (IsS101.far (p := ⟨gb517, 7, none⟩) HI0.out NB0_517.out _) NB0_512.out _) NB0_512.out _) NB0_512.out _) NB0_512.out _) NB0_512.out _) NB0_512.out _) NB0_512.out _) NB0_512.out _) | (repeat (first | (with_reducible first | exact HI0.out | apply IsS101.alloc | apply IsS101.drewN | apply IsS101.drew | refine IsS101.far ?_ NB0_512.out _ | refine IsS101.far ?_ NB0_517.out _ | apply IsS101.set_1) | exact HI0.out)), by repeat (first | (with_reducible first | exact HB.out | apply Qc | apply Qa | apply Qb | refine Qd ?_ (IsS101.ge HI0.out) | refine Qd ?_ GE512.out | refine Qd ?_ GE517.out) | exact HB.out), by repeat (first | (with_reducible first | exact HK.out | apply Qau.set_ | apply keep_drewN | apply keep_drew | apply keep_alloc | refine keep_far ?_ GW512.out _ | refine keep_far ?_ GW517.out _) | exact HK.out)⟩
       rw [if_neg c65] at H
       have c65b0 : (t525 == 5) = false := beq_eq_false_iff_ne.mpr c65
       have c65b1 : (t525 != 5) = true := bne_iff_ne.mpr c65
       simp only [Option.some.injEq, Prod.mk.injEq] at H
       obtain ⟨rfl, rfl, rfl, rfl, rfl, rfl, rfl, rfl, rfl⟩ := H
       have hnb76 := NB517_512.out
       have hnc76 := NB512_517.out
       have hnb77 := NB517_0.out
       have hnc77 := NB0_517.out
       obtain ⟨z78_0, z78_1, z78_2, z78_3, z78_4, z78_5, z78_6, z78_7, j78_0, j78_1, j78_2, j78_3, j78_4, j78_5, j78_6, j78_7⟩ := Lv.blks8 BK517.out
       go_wp2_with (first | ((with_reducible refine gate_callee (f := 64) rfl ?_); refine Qat (some 48) rfl rfl Try.func64 (by kernel_rfl) rfl #[.pointer (some ⟨g, 0, none⟩), .int .i64 90] rfl zm ?_; (with_reducible refine (Zsl1Next.calls g s0_0 x103_42 90 t535 t536 w0 _ ?side1 ?side2 A64.out).mono ?_); (case side1 => exact yj7); (case side2 => exact yj0); rintro e w79 ⟨rfl, hi, hb, hk⟩; refine ⟨_, rfl, ?_⟩; have n0_ := Qz.mk (Qau.blk hk (g' := gb512) (o := .cells #[.int .i64 0, .int .i64 0, .int .i64 0, .bool false, .int .i64 0, .bool false, .int .i64 0, .int .i64 0] 48 (0, 0)) zk NB512_0.out (by simp)); have n1_ := Qz.mk (Qau.blk hk (g' := gb517) (o := .cells #[.int .i64 t525, .int .i64 (wrap64 (1 + t515)), .int .i64 t527, .bool t529, .int .i64 x102_42, .bool (!false), .int .i64 0, .int .i64 0] 48 (0, 0)) zk NB517_0.out (by simp)); have n2_ := Qz.mk (Qau.trans yj1 hk (.inl rfl)); have n3_ := Qz.mk (hb); have n4_ := Qz.mk (hi); clear BK512; clear BK517; clear HK; clear HB; clear HI0; have BK512 := n0_; have BK517 := n1_; have HK := n2_; have HB := n3_; have HI0 := n4_; clear n0_ n1_ n2_ n3_ n4_; (try clear hb); (try clear hb2); (try clear hk); (try clear hi); obtain ⟨z80_0, z80_1, z80_2, z80_3, z80_4, z80_5, z80_6, z80_7, j80_0, j80_1, j80_2, j80_3, j80_4, j80_5, j80_6, j80_7⟩ := Lv.blks8 BK517.out; have hnb81 := NB512_0.out; have hnc81 := NB0_512.out; obtain ⟨z82_0, z82_1, z82_2, z82_3, z82_4, z82_5, z82_6, z82_7, j82_0, j82_1, j82_2, j82_3, j82_4, j82_5, j82_6, j82_7⟩ := Lv.blks8 BK512.out))
       refine bodyPost_ret (results_cell_row rfl _ _ gb512 48 #[.int .i64 t525, .int .i64 (wrap64 (1 + t515)), .int .i64 t527, .bool t529, .int .i64 x102_42, .bool (!false), .int .i64 t535, .int .i64 0] (0, 0) _ rfl yj4 Try.underlying48 rfl (by kernel_rfl)) rfl ?_
       exact ⟨ze, by first | exact (IsS101.far (p := ⟨gb512, 7, none⟩) (IsS101.far (p := ⟨gb512, 6, none⟩) (IsS101.far (p := ⟨gb512, 5, none⟩) (IsS101.far (p := ⟨gb512, 4, none⟩) (IsS101.far (p := ⟨gb512, 3, none⟩) (IsS101.far (p := ⟨gb512, 2, none⟩) (IsS101.far (p := ⟨gb512, 1, none⟩) (IsS101.far (p := ⟨gb512, 0, none⟩) (IsS101.far (p := ⟨gb517, 6, none⟩) HI0.out NB0_517.out _) NB0_512.out _) NB0_512.out _) NB0_512.out _) NB0_512.out _) NB0_512.out _) NB0_512.out _) NB0_512.out _) NB0_512.out _) | (repeat (first | (with_reducible first | exact HI0.out | apply IsS101.alloc | apply IsS101.drewN | apply IsS101.drew | refine IsS101.far ?_ NB0_512.out _ | refine IsS101.far ?_ NB0_517.out _ | apply IsS101.set_1) | exact HI0.out)), by repeat (first | (with_reducible first | exact HB.out | apply Qc | apply Qa | apply Qb | refine Qd ?_ (IsS101.ge HI0.out) | refine Qd ?_ GE512.out | refine Qd ?_ GE517.out) | exact HB.out), by repeat (first | (with_reducible first | exact HK.out | apply Qau.set_ | apply keep_drewN | apply keep_drew | apply keep_alloc | refine keep_far ?_ GW512.out _ | refine keep_far ?_ GW517.out _) | exact HK.out)⟩
      rw [if_neg c63] at H
      obtain rfl : t531 = true := by simpa using c63
      have c63b0 : (!true) = false := rfl
      clear c63
      by_cases c83 : t525 = 5
      ·rw [if_pos c83] at H
       have c83b0 : (t525 == 5) = true := beq_iff_eq.mpr c83
       have c83b1 : (t525 != 5) = false := bne_eq_false_iff_eq.mpr c83
       clear c83
       replace H := Option.bind_eq_some_iff.mp H
       obtain ⟨⟨t539, t540⟩, A840, H⟩ := H
       replace H : (some (t525, (wrap64 (1 + t515)), t527, t529, x102_42, (!true), 0, wrap64 (1 + t539), t540)) = some (r1, r2, r3, r4, r5, r6, r7, r8, r9) := H
       have A84 := Qz.mk A840
       clear A840
       simp only [Option.some.injEq, Prod.mk.injEq] at H
       obtain ⟨rfl, rfl, rfl, rfl, rfl, rfl, rfl, rfl, rfl⟩ := H
       have hnb85 := NB517_512.out
       have hnc85 := NB512_517.out
       have hnb86 := NB517_0.out
       have hnc86 := NB0_517.out
       obtain ⟨z87_0, z87_1, z87_2, z87_3, z87_4, z87_5, z87_6, z87_7, j87_0, j87_1, j87_2, j87_3, j87_4, j87_5, j87_6, j87_7⟩ := Lv.blks8 BK517.out
       go_wp2_with (first | ((with_reducible refine gate_callee (f := 64) rfl ?_); refine Qat (some 54) rfl rfl Try.func64 (by kernel_rfl) rfl #[.pointer (some ⟨g, 0, none⟩), .int .i64 6] rfl zm ?_; (with_reducible refine (Zsl1Next.calls g s0_0 x103_42 6 t539 t540 w0 _ ?side1 ?side2 A84.out).mono ?_); (case side1 => exact yj7); (case side2 => exact yj0); rintro e w88 ⟨rfl, hi, hb, hk⟩; refine ⟨_, rfl, ?_⟩; have n0_ := Qz.mk (Qau.blk hk (g' := gb512) (o := .cells #[.int .i64 0, .int .i64 0, .int .i64 0, .bool false, .int .i64 0, .bool false, .int .i64 0, .int .i64 0] 48 (0, 0)) zk NB512_0.out (by simp)); have n1_ := Qz.mk (Qau.blk hk (g' := gb517) (o := .cells #[.int .i64 t525, .int .i64 (wrap64 (1 + t515)), .int .i64 t527, .bool t529, .int .i64 x102_42, .bool (!true), .int .i64 0, .int .i64 0] 48 (0, 0)) zk NB517_0.out (by simp)); have n2_ := Qz.mk (Qau.trans yj1 hk (.inl rfl)); have n3_ := Qz.mk (hb); have n4_ := Qz.mk (hi); clear BK512; clear BK517; clear HK; clear HB; clear HI0; have BK512 := n0_; have BK517 := n1_; have HK := n2_; have HB := n3_; have HI0 := n4_; clear n0_ n1_ n2_ n3_ n4_; (try clear hb); (try clear hb2); (try clear hk); (try clear hi); obtain ⟨z89_0, z89_1, z89_2, z89_3, z89_4, z89_5, z89_6, z89_7, j89_0, j89_1, j89_2, j89_3, j89_4, j89_5, j89_6, j89_7⟩ := Lv.blks8 BK517.out; have hnb90 := NB512_0.out; have hnc90 := NB0_512.out; obtain ⟨z91_0, z91_1, z91_2, z91_3, z91_4, z91_5, z91_6, z91_7, j91_0, j91_1, j91_2, j91_3, j91_4, j91_5, j91_6, j91_7⟩ := Lv.blks8 BK512.out))
       refine bodyPost_ret (results_cell_row rfl _ _ gb512 48 #[.int .i64 t525, .int .i64 (wrap64 (1 + t515)), .int .i64 t527, .bool t529, .int .i64 x102_42, .bool (!true), .int .i64 0, .int .i64 (wrap64 (1 + t539))] (0, 0) _ rfl (by refine zQ ?_; refine Qk (cs := #[.int .i64 t525, .int .i64 (wrap64 (1 + t515)), .int .i64 t527, .bool t529, .int .i64 x102_42, .bool (!true), .int .i64 0, .int .i64 0]) ?_ 7 _ rfl; refine zQ ?_; refine Qk (cs := #[.int .i64 t525, .int .i64 (wrap64 (1 + t515)), .int .i64 t527, .bool t529, .int .i64 x102_42, .bool (!true), .int .i64 0, .int .i64 0]) ?_ 6 _ rfl; refine zQ ?_; refine Qk (cs := #[.int .i64 t525, .int .i64 (wrap64 (1 + t515)), .int .i64 t527, .bool t529, .int .i64 x102_42, .bool false, .int .i64 0, .int .i64 0]) ?_ 5 _ rfl; refine zQ ?_; refine Qk (cs := #[.int .i64 t525, .int .i64 (wrap64 (1 + t515)), .int .i64 t527, .bool t529, .int .i64 0, .bool false, .int .i64 0, .int .i64 0]) ?_ 4 _ rfl; refine zQ ?_; refine Qk (cs := #[.int .i64 t525, .int .i64 (wrap64 (1 + t515)), .int .i64 t527, .bool false, .int .i64 0, .bool false, .int .i64 0, .int .i64 0]) ?_ 3 _ rfl; refine zQ ?_; refine Qk (cs := #[.int .i64 t525, .int .i64 (wrap64 (1 + t515)), .int .i64 0, .bool false, .int .i64 0, .bool false, .int .i64 0, .int .i64 0]) ?_ 2 _ rfl; refine zQ ?_; refine Qk (cs := #[.int .i64 t525, .int .i64 0, .int .i64 0, .bool false, .int .i64 0, .bool false, .int .i64 0, .int .i64 0]) ?_ 1 _ rfl; refine zQ ?_; refine Qk (cs := #[.int .i64 0, .int .i64 0, .int .i64 0, .bool false, .int .i64 0, .bool false, .int .i64 0, .int .i64 0]) ?_ 0 _ rfl; refine zQ ?_; refine blk_far ?_ NB512_517.out _; refine zQ ?_; exact BK512.out) Try.underlying48 rfl (by kernel_rfl)) rfl ?_
       exact ⟨ze, by first | exact (IsS101.far (p := ⟨gb512, 7, none⟩) (IsS101.far (p := ⟨gb512, 6, none⟩) (IsS101.far (p := ⟨gb512, 5, none⟩) (IsS101.far (p := ⟨gb512, 4, none⟩) (IsS101.far (p := ⟨gb512, 3, none⟩) (IsS101.far (p := ⟨gb512, 2, none⟩) (IsS101.far (p := ⟨gb512, 1, none⟩) (IsS101.far (p := ⟨gb512, 0, none⟩) (IsS101.far (p := ⟨gb517, 7, none⟩) HI0.out NB0_517.out _) NB0_512.out _) NB0_512.out _) NB0_512.out _) NB0_512.out _) NB0_512.out _) NB0_512.out _) NB0_512.out _) NB0_512.out _) | (repeat (first | (with_reducible first | exact HI0.out | apply IsS101.alloc | apply IsS101.drewN | apply IsS101.drew | refine IsS101.far ?_ NB0_512.out _ | refine IsS101.far ?_ NB0_517.out _ | apply IsS101.set_1) | exact HI0.out)), by repeat (first | (with_reducible first | exact HB.out | apply Qc | apply Qa | apply Qb | refine Qd ?_ (IsS101.ge HI0.out) | refine Qd ?_ GE512.out | refine Qd ?_ GE517.out) | exact HB.out), by repeat (first | (with_reducible first | exact HK.out | apply Qau.set_ | apply keep_drewN | apply keep_drew | apply keep_alloc | refine keep_far ?_ GW512.out _ | refine keep_far ?_ GW517.out _) | exact HK.out)⟩
      rw [if_neg c83] at H
      have c83b0 : (t525 == 5) = false := beq_eq_false_iff_ne.mpr c83
      have c83b1 : (t525 != 5) = true := bne_iff_ne.mpr c83
      simp only [Option.some.injEq, Prod.mk.injEq] at H
      obtain ⟨rfl, rfl, rfl, rfl, rfl, rfl, rfl, rfl, rfl⟩ := H
      have hnb92 := NB517_512.out
      have hnc92 := NB512_517.out
      have hnb93 := NB517_0.out
      have hnc93 := NB0_517.out
      obtain ⟨z94_0, z94_1, z94_2, z94_3, z94_4, z94_5, z94_6, z94_7, j94_0, j94_1, j94_2, j94_3, j94_4, j94_5, j94_6, j94_7⟩ := Lv.blks8 BK517.out
      have hnb95 := NB512_0.out
      have hnc95 := NB0_512.out
      obtain ⟨z96_0, z96_1, z96_2, z96_3, z96_4, z96_5, z96_6, z96_7, j96_0, j96_1, j96_2, j96_3, j96_4, j96_5, j96_6, j96_7⟩ := Lv.blks8 BK512.out
      go_wp2
      refine bodyPost_ret (results_cell_row rfl _ _ gb512 48 #[.int .i64 t525, .int .i64 (wrap64 (1 + t515)), .int .i64 t527, .bool t529, .int .i64 x102_42, .bool (!true), .int .i64 0, .int .i64 0] (0, 0) _ rfl (by refine zQ ?_; refine Qk (cs := #[.int .i64 t525, .int .i64 (wrap64 (1 + t515)), .int .i64 t527, .bool t529, .int .i64 x102_42, .bool (!true), .int .i64 0, .int .i64 0]) ?_ 7 _ rfl; refine zQ ?_; refine Qk (cs := #[.int .i64 t525, .int .i64 (wrap64 (1 + t515)), .int .i64 t527, .bool t529, .int .i64 x102_42, .bool (!true), .int .i64 0, .int .i64 0]) ?_ 6 _ rfl; refine zQ ?_; refine Qk (cs := #[.int .i64 t525, .int .i64 (wrap64 (1 + t515)), .int .i64 t527, .bool t529, .int .i64 x102_42, .bool false, .int .i64 0, .int .i64 0]) ?_ 5 _ rfl; refine zQ ?_; refine Qk (cs := #[.int .i64 t525, .int .i64 (wrap64 (1 + t515)), .int .i64 t527, .bool t529, .int .i64 0, .bool false, .int .i64 0, .int .i64 0]) ?_ 4 _ rfl; refine zQ ?_; refine Qk (cs := #[.int .i64 t525, .int .i64 (wrap64 (1 + t515)), .int .i64 t527, .bool false, .int .i64 0, .bool false, .int .i64 0, .int .i64 0]) ?_ 3 _ rfl; refine zQ ?_; refine Qk (cs := #[.int .i64 t525, .int .i64 (wrap64 (1 + t515)), .int .i64 0, .bool false, .int .i64 0, .bool false, .int .i64 0, .int .i64 0]) ?_ 2 _ rfl; refine zQ ?_; refine Qk (cs := #[.int .i64 t525, .int .i64 0, .int .i64 0, .bool false, .int .i64 0, .bool false, .int .i64 0, .int .i64 0]) ?_ 1 _ rfl; refine zQ ?_; refine Qk (cs := #[.int .i64 0, .int .i64 0, .int .i64 0, .bool false, .int .i64 0, .bool false, .int .i64 0, .int .i64 0]) ?_ 0 _ rfl; refine zQ ?_; exact BK512.out) Try.underlying48 rfl (by kernel_rfl)) rfl ?_
      exact ⟨ze, by first | exact (IsS101.far (p := ⟨gb512, 7, none⟩) (IsS101.far (p := ⟨gb512, 6, none⟩) (IsS101.far (p := ⟨gb512, 5, none⟩) (IsS101.far (p := ⟨gb512, 4, none⟩) (IsS101.far (p := ⟨gb512, 3, none⟩) (IsS101.far (p := ⟨gb512, 2, none⟩) (IsS101.far (p := ⟨gb512, 1, none⟩) (IsS101.far (p := ⟨gb512, 0, none⟩) HI0.out NB0_512.out _) NB0_512.out _) NB0_512.out _) NB0_512.out _) NB0_512.out _) NB0_512.out _) NB0_512.out _) NB0_512.out _) | (repeat (first | (with_reducible first | exact HI0.out | apply IsS101.alloc | apply IsS101.drewN | apply IsS101.drew | refine IsS101.far ?_ NB0_512.out _ | refine IsS101.far ?_ NB0_517.out _ | apply IsS101.set_1) | exact HI0.out)), by repeat (first | (with_reducible first | exact HB.out | apply Qc | apply Qa | apply Qb | refine Qd ?_ (IsS101.ge HI0.out) | refine Qd ?_ GE512.out | refine Qd ?_ GE517.out) | exact HB.out), by repeat (first | (with_reducible first | exact HK.out | apply Qau.set_ | apply keep_drewN | apply keep_drew | apply keep_alloc | refine keep_far ?_ GW512.out _ | refine keep_far ?_ GW517.out _) | exact HK.out)⟩
   replace c38 := Bool.eq_false_iff.mpr c38
   subst c38
   have H1 : (some ((wrap64 (1 + t513)), (wrap64 (1 + t515)), 0, false, 0, false, 0, 0, x103_15)) = some (r1, r2, r3, r4, r5, r6, r7, r8, r9) := by rw [if_neg (show ¬ (false = true) by decide)] at H; exact H
   clear H
   have H := H1
   clear H1
   simp only [Option.some.injEq, Prod.mk.injEq] at H
   obtain ⟨rfl, rfl, rfl, rfl, rfl, rfl, rfl, rfl, rfl⟩ := H
   have hnb97 := NB517_512.out
   have hnc97 := NB512_517.out
   have hnb98 := NB517_0.out
   have hnc98 := NB0_517.out
   obtain ⟨z99_0, z99_1, z99_2, z99_3, z99_4, z99_5, z99_6, z99_7, j99_0, j99_1, j99_2, j99_3, j99_4, j99_5, j99_6, j99_7⟩ := Lv.blks8 BK517.out
   have hnb100 := NB512_0.out
   have hnc100 := NB0_512.out
   obtain ⟨z101_0, z101_1, z101_2, z101_3, z101_4, z101_5, z101_6, z101_7, j101_0, j101_1, j101_2, j101_3, j101_4, j101_5, j101_6, j101_7⟩ := Lv.blks8 BK512.out
   go_wp2
   refine bodyPost_ret (results_cell_row rfl _ _ gb512 48 #[.int .i64 (wrap64 (1 + t513)), .int .i64 (wrap64 (1 + t515)), .int .i64 0, .bool false, .int .i64 0, .bool false, .int .i64 0, .int .i64 0] (0, 0) _ rfl (by refine zQ ?_; refine Qk (cs := #[.int .i64 (wrap64 (1 + t513)), .int .i64 (wrap64 (1 + t515)), .int .i64 0, .bool false, .int .i64 0, .bool false, .int .i64 0, .int .i64 0]) ?_ 7 _ rfl; refine zQ ?_; refine Qk (cs := #[.int .i64 (wrap64 (1 + t513)), .int .i64 (wrap64 (1 + t515)), .int .i64 0, .bool false, .int .i64 0, .bool false, .int .i64 0, .int .i64 0]) ?_ 6 _ rfl; refine zQ ?_; refine Qk (cs := #[.int .i64 (wrap64 (1 + t513)), .int .i64 (wrap64 (1 + t515)), .int .i64 0, .bool false, .int .i64 0, .bool false, .int .i64 0, .int .i64 0]) ?_ 5 _ rfl; refine zQ ?_; refine Qk (cs := #[.int .i64 (wrap64 (1 + t513)), .int .i64 (wrap64 (1 + t515)), .int .i64 0, .bool false, .int .i64 0, .bool false, .int .i64 0, .int .i64 0]) ?_ 4 _ rfl; refine zQ ?_; refine Qk (cs := #[.int .i64 (wrap64 (1 + t513)), .int .i64 (wrap64 (1 + t515)), .int .i64 0, .bool false, .int .i64 0, .bool false, .int .i64 0, .int .i64 0]) ?_ 3 _ rfl; refine zQ ?_; refine Qk (cs := #[.int .i64 (wrap64 (1 + t513)), .int .i64 (wrap64 (1 + t515)), .int .i64 0, .bool false, .int .i64 0, .bool false, .int .i64 0, .int .i64 0]) ?_ 2 _ rfl; refine zQ ?_; refine Qk (cs := #[.int .i64 (wrap64 (1 + t513)), .int .i64 0, .int .i64 0, .bool false, .int .i64 0, .bool false, .int .i64 0, .int .i64 0]) ?_ 1 _ rfl; refine zQ ?_; refine Qk (cs := #[.int .i64 0, .int .i64 0, .int .i64 0, .bool false, .int .i64 0, .bool false, .int .i64 0, .int .i64 0]) ?_ 0 _ rfl; refine zQ ?_; exact BK512.out) Try.underlying48 rfl (by kernel_rfl)) rfl ?_
   exact ⟨ze, by first | exact (IsS101.far (p := ⟨gb512, 7, none⟩) (IsS101.far (p := ⟨gb512, 6, none⟩) (IsS101.far (p := ⟨gb512, 5, none⟩) (IsS101.far (p := ⟨gb512, 4, none⟩) (IsS101.far (p := ⟨gb512, 3, none⟩) (IsS101.far (p := ⟨gb512, 2, none⟩) (IsS101.far (p := ⟨gb512, 1, none⟩) (IsS101.far (p := ⟨gb512, 0, none⟩) HI0.out NB0_512.out _) NB0_512.out _) NB0_512.out _) NB0_512.out _) NB0_512.out _) NB0_512.out _) NB0_512.out _) NB0_512.out _) | (repeat (first | (with_reducible first | exact HI0.out | apply IsS101.alloc | apply IsS101.drewN | apply IsS101.drew | refine IsS101.far ?_ NB0_512.out _ | refine IsS101.far ?_ NB0_517.out _ | apply IsS101.set_1) | exact HI0.out)), by repeat (first | (with_reducible first | exact HB.out | apply Qc | apply Qa | apply Qb | refine Qd ?_ (IsS101.ge HI0.out) | refine Qd ?_ GE512.out | refine Qd ?_ GE517.out) | exact HB.out), by repeat (first | (with_reducible first | exact HK.out | apply Qau.set_ | apply keep_drewN | apply keep_drew | apply keep_alloc | refine keep_far ?_ GW512.out _ | refine keep_far ?_ GW517.out _) | exact HK.out)⟩
end Go.Proofs.Ythagppmaofcllaa.P
