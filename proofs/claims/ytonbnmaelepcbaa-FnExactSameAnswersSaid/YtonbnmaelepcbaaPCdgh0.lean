import Derived.Test.YtonbnmaelepcbaaZz
import Derived.Test.YtonbnmaelepcbaaP0
import Derived.Test.YtonbnmaelepcbaaPCacdefgh2
import Derived.Test.YtonbnmaelepcbaaPCacdefgh4
import Derived.Test.YtonbnmaelepcbaaPCacdefgh6
import Derived.Test.YtonbnmaelepcbaaPDm1
import Derived.Test.YtonbnmaelepcbaaWRepsOne
import Derived.Test.YtonbnmaelepcbaaLb
import Derived.IntWalk
import Derived.Shelf.Abstract
import Derived.Test.YtonbnmaelepcbaaLv
import Derived.StillTailTactics
import Derived.Test.YtonbnmaelepcbaaLb
namespace Go.Proofs.Ytonbnmaelepcbaa.P
open Go.RowKit Go.Proofs.YtonbnmaelepcbaaW.PrintWords Go.Proofs.YtonbnmaelepcbaaW.PrintLast Go.Proofs.YtonbnmaelepcbaaW.PrintMore
attribute [local go_sem] max2_int min2_int max_two min_two max_three min_three max_four min_four   -- for this text's walks alone
set_option linter.unusedVariables false
set_option linter.unusedSimpArgs false
-- PROOF --
theorem spec_l6Txn.calls {g : Nat} (s0_0 : Int) (s0_1 : Int) (A2 : Option Addr) (c2 : Nat) (s0_2 : List (S83)) (A3 : Option Addr) (c3 : Nat) (s0_3 : List (S87)) (a1 : Int) (r : Int) (w : World) (hr2 : Kd.C k83 w A2 s0_2.length s0_2) (hc2 : s0_2.length ≤ c2) (hr3 : Kd.C k87 w A3 s0_3.length s0_3) (hc3 : s0_3.length ≤ c3) (h : spec_l6Txn.f s0_0 s0_1 s0_2 s0_3 a1 = some r)
 (hbx : Aside0 (w.heap[g]? = some (.cells #[.int .i64 s0_0, .int .i64 s0_1, .slice A2 s0_2.length c2, .slice A3 s0_3.length c3] 31 (0, 0))) := by assumption) :
 Calls Try.prog 98 #[.pointer (some ⟨g, 0, none⟩), .int .i64 a1] w fun e w' => e = .returned (.int .i64 r) ∧ Below w.heap.size w w' := by
 have hc := hbx.out
 obtain rfl := Option.some.inj h
 exact (spec_l6Txn.at ⟨g, 0, none⟩ A2 c2 s0_2 a1 w ((blk_cell hc 2).trans rfl) hr2).mono fun _ _ h => ⟨h.1, by rw [← h.2]; exact Below.refl _ _⟩
set_option maxHeartbeats 8000000 in
set_option maxRecDepth 100000 in
theorem spec_l5Seen.calls (k : Nat) (A0 : Option Addr) (c0 : Nat) (l0 : List (S90)) (a1_0 : Int) (a1_1 : Int) (r : Int) (w : World) (hr0 : Kd.C k90 w A0 l0.length l0) (hc0 : l0.length ≤ c0) (h : spec_l5Seen.f k l0 a1_0 a1_1 = some r) :
 Calls Try.prog 127 #[.slice A0 l0.length c0, .agg #[.int .i64 a1_0, .int .i64 a1_1]] w fun e w' => e = .returned (.int .i64 r) ∧ Below w.heap.size w w' := by
 have hu116 := Try.underlying116
 have hu90 := Try.underlying90
 have HR0 := Aside0.mk hr0
 have HC0 := Aside0.mk hc0
 clear hr0 hc0
 have HB := Aside0.mk (Below.refl w.heap.size w)
 have H : (spec_l5Seen.l0 k l0 0 a1_0 a1_1) = some r := h
 clear h
 have H' := Aside0.mk H
 clear H
 go_enter Try.func127, Try.ntmps127
 go_wp2_with (first | ((with_reducible refine gate_dst (N := 3) rfl ?_); refine zE 3 116 #[.int .i64 a1_0, .int .i64 a1_1] ?_; intro gb27 hg w3 hbox hb; have BK27 := Aside0.mk hbox; have GW27 := Aside0.mk (zh hg : w.heap.size ≤ gb27); have GE27 := GW27; replace HB := Aside0.mk (below_step zb hb); clear hb hbox hg))
 go_loopg [5] k (fun kq v5 w' => ∃ (x5_1 : Int), v5 = .int .i64 x5_1 ∧ Aside0 (spec_l5Seen.l0 kq l0 x5_1 a1_0 a1_1 = some r) ∧ Aside0 (kq ≤ k) ∧ Aside0 (w'.heap[gb27]? = some (.cells #[.int .i64 a1_0, .int .i64 a1_1] 116 (0, 0))) ∧ Aside0 (Below w.heap.size w w'))
 case atStart => exact ⟨(0), zs, H', ⟨Nat.le_refl _⟩, ⟨zq BK27⟩, ⟨zb⟩⟩
 case round =>
  clear H'
  try clear c1
  try clear p2
  obtain ⟨x5_1, rfl, HA, HK1, BK27, HB⟩ := hrel
  cases gk with
  | zero => exact absurd HA.out (by simp [spec_l5Seen.l0])
  | succ k1 =>
   have H := HA.out
   clear HA
   simp only [spec_l5Seen.l0] at H
   by_cases c4 : x5_1 < (l0.length : Int)
   ·rw [if_pos c4] at H
    have c4b0 : decide (x5_1 < (l0.length : Int)) = true := decide_eq_true c4
    clear c4
    by_cases c5 : 0 ≤ x5_1
    ·rw [if_pos c5] at H
     have c5b0 : decide (0 ≤ x5_1) = true := decide_eq_true c5
     clear c5
     have HC6 := Aside0.mk H
     clear H
     have p387 : 0 ≤ (x5_1 : Int) := of_decide_eq_true za
     have q29 : x5_1 < (l0.length : Int) := of_decide_eq_true za
     obtain ⟨ad29, e387, hx29_0, hx29_1, hx29_2, hx29_3⟩ := at_T90 (Kd.C_below HR0.out HB.out) x5_1 p387 q29
     cases e387
     replace p387 := eq_true p387
     replace q29 := eq_true q29
     go_upto_region 5 with (first | ((with_reducible refine gate_dst (N := 6) rfl ?_); refine zE 6 90 #[.int .i64 0, .int .i64 0, .bool false, .int .i64 0] ?_; intro gb28 hg w7 hbox hb; have BK28 := Aside0.mk hbox; have GW28 := Aside0.mk (zh hg : w.heap.size ≤ gb28); have NB386_388 := zl BK27 hg; have NB388_386 := zL BK27 hg; have GE28 := GW28; replace BK27 := zw BK27 hb; replace HB := Aside0.mk (below_step zb hb); clear hb hbox hg; have hnb8 := NB388_386.out; have hnc8 := NB386_388.out; obtain ⟨z9_0, z9_1, z9_2, z9_3, j9_0, j9_1, j9_2, j9_3⟩ := Lv.blks4 BK28.out))
     (try simp only [Act.put, List.setIfInBounds_toArray, List.set_cons_zero, List.set_cons_succ])
     go_cut [38] (fun v38 wc => ∃ (kq : Nat) (x38_5 : Bool), v38 = .bool x38_5 ∧ Aside0 (spec_l5Seen.j1 kq l0 x5_1 x38_5 a1_0 a1_1 ((rd_T90 l0 x5_1).f0) ((rd_T90 l0 x5_1).f1) ((rd_T90 l0 x5_1).f2) ((rd_T90 l0 x5_1).f3) = some r) ∧ Aside0 (kq ≤ k1) ∧ Aside0 (wc.heap[gb27]? = some (.cells #[.int .i64 a1_0, .int .i64 a1_1] 116 (0, 0))) ∧ Aside0 (wc.heap[gb28]? = some (.cells #[.int .i64 ((rd_T90 l0 x5_1).f0), .int .i64 ((rd_T90 l0 x5_1).f1), .bool ((rd_T90 l0 x5_1).f2), .int .i64 ((rd_T90 l0 x5_1).f3)] 90 (0, 0))) ∧ Aside0 (Below w.heap.size w wc))
     case first =>
      have H := HC6.out
      clear HC6
      by_cases c10 : ((rd_T90 l0 x5_1).f1) = 0
      ·rw [if_pos c10] at H
       have c10b0 : (((rd_T90 l0 x5_1).f1) == 0) = true := beq_iff_eq.mpr c10
       have c10b1 : (((rd_T90 l0 x5_1).f1) != 0) = false := bne_eq_false_iff_eq.mpr c10
       clear c10
       (first | rw [c10b0] | (simp only [i64_w, i32_w]; rw [c10b0]) | skip)
       by_cases c11 : ((rd_T90 l0 x5_1).f0) = a1_1
       ·rw [if_pos c11] at H
        have c11b0 : (((rd_T90 l0 x5_1).f0) == a1_1) = true := beq_iff_eq.mpr c11
        have c11b1 : (((rd_T90 l0 x5_1).f0) != a1_1) = false := bne_eq_false_iff_eq.mpr c11
        clear c11
        have H' := Aside0.mk H
        clear H
        have hnb12 := NB388_386.out
        have hnc12 := NB386_388.out
        obtain ⟨z13_0, z13_1, z13_2, z13_3, j13_0, j13_1, j13_2, j13_3⟩ := Lv.blks4 BK28.out
        obtain ⟨z14_0, z14_1, j14_0, j14_1⟩ := Lv.blks2 BK27.out
        go_wp2
        go_meet
        case rel => exact ⟨_, (true), zs, H', ⟨by have := HK1.out; first | omega | exact Nat.le_refl _⟩, ⟨by refine zQ ?_; refine blk_far ?_ NB386_388.out _; refine zQ ?_; refine blk_far ?_ NB386_388.out _; refine zQ ?_; refine blk_far ?_ NB386_388.out _; refine zQ ?_; refine blk_far ?_ NB386_388.out _; refine zQ ?_; exact BK27.out⟩, ⟨by refine zQ ?_; refine blk_put (cs := #[.int .i64 ((rd_T90 l0 x5_1).f0), .int .i64 ((rd_T90 l0 x5_1).f1), .bool ((rd_T90 l0 x5_1).f2), .int .i64 0]) ?_ 3 _ rfl; refine zQ ?_; refine blk_put (cs := #[.int .i64 ((rd_T90 l0 x5_1).f0), .int .i64 ((rd_T90 l0 x5_1).f1), .bool false, .int .i64 0]) ?_ 2 _ rfl; refine zQ ?_; refine blk_put (cs := #[.int .i64 ((rd_T90 l0 x5_1).f0), .int .i64 0, .bool false, .int .i64 0]) ?_ 1 _ rfl; refine zQ ?_; refine blk_put (cs := #[.int .i64 0, .int .i64 0, .bool false, .int .i64 0]) ?_ 0 _ rfl; refine zQ ?_; exact BK28.out⟩, ⟨zb⟩⟩
       rw [if_neg c11] at H
       have c11b0 : (((rd_T90 l0 x5_1).f0) == a1_1) = false := beq_eq_false_iff_ne.mpr c11
       have c11b1 : (((rd_T90 l0 x5_1).f0) != a1_1) = true := bne_iff_ne.mpr c11
       have H' := Aside0.mk H
       clear H
       have hnb15 := NB388_386.out
       have hnc15 := NB386_388.out
       obtain ⟨z16_0, z16_1, z16_2, z16_3, j16_0, j16_1, j16_2, j16_3⟩ := Lv.blks4 BK28.out
       obtain ⟨z17_0, z17_1, j17_0, j17_1⟩ := Lv.blks2 BK27.out
       go_wp2
       go_meet
       case rel => exact ⟨_, (false), zs, H', ⟨by have := HK1.out; first | omega | exact Nat.le_refl _⟩, ⟨by refine zQ ?_; refine blk_far ?_ NB386_388.out _; refine zQ ?_; refine blk_far ?_ NB386_388.out _; refine zQ ?_; refine blk_far ?_ NB386_388.out _; refine zQ ?_; refine blk_far ?_ NB386_388.out _; refine zQ ?_; exact BK27.out⟩, ⟨by refine zQ ?_; refine blk_put (cs := #[.int .i64 ((rd_T90 l0 x5_1).f0), .int .i64 ((rd_T90 l0 x5_1).f1), .bool ((rd_T90 l0 x5_1).f2), .int .i64 0]) ?_ 3 _ rfl; refine zQ ?_; refine blk_put (cs := #[.int .i64 ((rd_T90 l0 x5_1).f0), .int .i64 ((rd_T90 l0 x5_1).f1), .bool false, .int .i64 0]) ?_ 2 _ rfl; refine zQ ?_; refine blk_put (cs := #[.int .i64 ((rd_T90 l0 x5_1).f0), .int .i64 0, .bool false, .int .i64 0]) ?_ 1 _ rfl; refine zQ ?_; refine blk_put (cs := #[.int .i64 0, .int .i64 0, .bool false, .int .i64 0]) ?_ 0 _ rfl; refine zQ ?_; exact BK28.out⟩, ⟨zb⟩⟩
      rw [if_neg c10] at H
      have c10b0 : (((rd_T90 l0 x5_1).f1) == 0) = false := beq_eq_false_iff_ne.mpr c10
      have c10b1 : (((rd_T90 l0 x5_1).f1) != 0) = true := bne_iff_ne.mpr c10
      (first | rw [c10b0] | (simp only [i64_w, i32_w]; rw [c10b0]) | skip)
      have H' := Aside0.mk H
      clear H
      have hnb18 := NB388_386.out
      have hnc18 := NB386_388.out
      obtain ⟨z19_0, z19_1, z19_2, z19_3, j19_0, j19_1, j19_2, j19_3⟩ := Lv.blks4 BK28.out
      obtain ⟨z20_0, z20_1, j20_0, j20_1⟩ := Lv.blks2 BK27.out
      go_wp2
      go_meet
      case rel => exact ⟨_, (decide (((rd_T90 l0 x5_1).f1) ≤ a1_0)), zs, H', ⟨by have := HK1.out; first | omega | exact Nat.le_refl _⟩, ⟨by refine zQ ?_; refine blk_far ?_ NB386_388.out _; refine zQ ?_; refine blk_far ?_ NB386_388.out _; refine zQ ?_; refine blk_far ?_ NB386_388.out _; refine zQ ?_; refine blk_far ?_ NB386_388.out _; refine zQ ?_; exact BK27.out⟩, ⟨by refine zQ ?_; refine blk_put (cs := #[.int .i64 ((rd_T90 l0 x5_1).f0), .int .i64 ((rd_T90 l0 x5_1).f1), .bool ((rd_T90 l0 x5_1).f2), .int .i64 0]) ?_ 3 _ rfl; refine zQ ?_; refine blk_put (cs := #[.int .i64 ((rd_T90 l0 x5_1).f0), .int .i64 ((rd_T90 l0 x5_1).f1), .bool false, .int .i64 0]) ?_ 2 _ rfl; refine zQ ?_; refine blk_put (cs := #[.int .i64 ((rd_T90 l0 x5_1).f0), .int .i64 0, .bool false, .int .i64 0]) ?_ 1 _ rfl; refine zQ ?_; refine blk_put (cs := #[.int .i64 0, .int .i64 0, .bool false, .int .i64 0]) ?_ 0 _ rfl; refine zQ ?_; exact BK28.out⟩, ⟨zb⟩⟩
     case rest =>
      clear HC6
      try clear c1
      try clear p2
      try clear p3
      try clear q3
      try clear hx3
      try clear c4
      try clear c4b0
      try clear c5
      try clear c5b0
      try clear c8
      try clear c10
      try clear c10b0
      try clear c10b1
      try clear c11
      try clear c11b0
      try clear c11b1
      try clear c12
      try clear c15
      try clear c18
      try clear z13_0 z13_1 z13_2 z13_3
      try clear z14_0 z14_1
      try clear z16_0 z16_1 z16_2 z16_3
      try clear z17_0 z17_1
      try clear z19_0 z19_1 z19_2 z19_3
      try clear z20_0 z20_1
      try clear z9_0 z9_1 z9_2 z9_3
      try clear j13_0 j13_1 j13_2 j13_3
      try clear j14_0 j14_1
      try clear j16_0 j16_1 j16_2 j16_3
      try clear j17_0 j17_1
      try clear j19_0 j19_1 j19_2 j19_3
      try clear j20_0 j20_1
      try clear j9_0 j9_1 j9_2 j9_3
      try clear hx29_0
      try clear hx29_1
      try clear hx29_2
      try clear hx29_3
      try clear p2
      try clear p387
      try clear q29
      obtain ⟨kq, x38_5, rfl, HA, HJ5, BK27, BK28, HB⟩ := hcut
      cases kq with
      | zero => exact absurd HA.out (by simp [spec_l5Seen.j1])
      | succ kj5 =>
       have H := HA.out
       clear HA
       simp only [spec_l5Seen.j1] at H
       by_cases c21 : x38_5 = true
       ·subst c21
        have H1 : (if ((rd_T90 l0 x5_1).f2) = true then (some (-1)) else (some x5_1)) = some r := by rw [if_pos rfl] at H; exact H
        clear H
        have H := H1
        clear H1
        by_cases c22 : ((rd_T90 l0 x5_1).f2) = true
        ·rw [if_pos c22] at H
         have c22b0 : ((rd_T90 l0 x5_1).f2) = true := c22
         clear c22
         obtain rfl := Option.some.inj H
         have hnb23 := NB388_386.out
         have hnc23 := NB386_388.out
         obtain ⟨z24_0, z24_1, z24_2, z24_3, j24_0, j24_1, j24_2, j24_3⟩ := Lv.blks4 BK28.out
         go_wp2
         go_ret
         exact ⟨ze, zb⟩
        rw [if_neg c22] at H
        have c22b0 : ((rd_T90 l0 x5_1).f2) = false := by simpa using c22
        clear c22
        obtain rfl := Option.some.inj H
        have hnb25 := NB388_386.out
        have hnc25 := NB386_388.out
        obtain ⟨z26_0, z26_1, z26_2, z26_3, j26_0, j26_1, j26_2, j26_3⟩ := Lv.blks4 BK28.out
        go_wp2
        go_ret
        exact ⟨ze, zb⟩
       replace c21 := Bool.eq_false_iff.mpr c21
       subst c21
       have H1 : (spec_l5Seen.l0 kj5 l0 (wrap64 (x5_1 + 1)) a1_0 a1_1) = some r := by rw [if_neg (show ¬ (false = true) by decide)] at H; exact H
       clear H
       have H := H1
       clear H1
       have H' := Aside0.mk H
       clear H
       go_wp2
       go_roundg kj5
       case measure => have := HK1.out; have := HJ5.out; omega
       case rel => exact ⟨(wrap64 (x5_1 + 1)), zs, H', ⟨by have := HK1.out; have := HJ5.out; omega⟩, ⟨zq BK27⟩, ⟨zb⟩⟩
    rw [if_neg c5] at H
    exact absurd H (by simp)
   rw [if_neg c4] at H
   have c4b0 : decide (x5_1 < (l0.length : Int)) = false := decide_eq_false c4
   clear c4
   obtain rfl := Option.some.inj H
   go_wp2
   go_ret
   exact ⟨ze, zb⟩
-- PROOF --
set_option maxHeartbeats 8000000 in
set_option maxRecDepth 100000 in
theorem spec_l6Read.at {g : Nat} (k : Nat) (a0_0 a0_1 : Int) (A2 : Option Addr) (c2 : Nat) (l2 : List S83) (A3 : Option Addr) (c3 : Nat) (l3 : List S87) (at_ id key r1 : Int) (r2 : Bool) (w : World) (hr2 : Kd.C k83 w A2 l2.length l2) (hc2 : l2.length ≤ c2) (hr3 : Kd.C k87 w A3 l3.length l3) (hc3 : l3.length ≤ c3) (h : spec_l6Read.f k l3 at_ id key = some (r1, r2)) (hbx : Aside0 (w.heap[g]? = some (Obj.cells #[.int .i64 a0_0, .int .i64 a0_1, .slice A2 l2.length c2, .slice A3 l3.length c3] 31))) :
 Calls Try.prog 80 #[.pointer (some ⟨g, 0, none⟩), .agg #[.int .i64 at_, .int .i64 id], .int .i64 key] w fun e w' => e = .returned (.tuple #[.int .i64 r1, .bool r2]) ∧ Below w.heap.size w w' := by
 have hu31 := Try.underlying31
 have hu87 := Try.underlying87
 have hu90 := Try.underlying90
 have hu116 := Try.underlying116
 have HB := Aside0.mk (Below.refl w.heap.size w)
 have X0 := hbx
 clear hbx
 have HR2 := Aside0.mk hr2
 have HR3 := Aside0.mk hr3
 have HC2 := Aside0.mk hc2
 have HC3 := Aside0.mk hc3
 have hn2 := hr2.2.1
 have hn3 := hr3.2.1
 clear hr2 hr3 hc2 hc3
 unfold spec_l6Read.f at h
 obtain ⟨i, hi⟩ : ∃ i, i = Lb.idx (fun u : S87 => u.f0 == key) l3 := ⟨_, rfl⟩
 rw [← hi] at h
 have HI := Aside0.mk hi
 clear hi
 by_cases ci : i < 0
 ·rw [if_pos ci] at h
  simp only [Option.some.injEq, Prod.mk.injEq] at h
  obtain ⟨rfl, rfl⟩ := h
  have ci0 : decide (i < 0) = true := decide_eq_true ci
  go_enter Try.func80, Try.ntmps80
  go_wp2_with fail
  have hb : Below w.heap.size w (w.alloc (Obj.cells #[.int .i64 at_, .int .i64 id] 116)) := below_alloc (Below.refl _ _) _
  have hbx := blk_new w (Obj.cells #[.int .i64 at_, .int .i64 id] 116)
  have hsz : w.heap.size + 1 = (w.alloc (Obj.cells #[.int .i64 at_, .int .i64 id] 116)).heap.size := by simp
  replace HB := Aside0.mk (below_alloc HB.out (Obj.cells #[.int .i64 at_, .int .i64 id] 116))
  replace X0 := Aside0.mk (keepB hb X0.out)
  have hbz := Aside0.mk hb
  have hbxz := Aside0.mk hbx
  have hszz := Aside0.mk hsz
  clear hb hbx hsz
  generalize w.alloc (Obj.cells #[.int .i64 at_, .int .i64 id] 116) = u1 at HB hbz hbxz hszz X0 ⊢
  have X1 := hbxz
  have z1 := hszz
  clear hbz hbxz hszz
  refine Calls.mono (spec_l6Row.at ⟨g, 0, none⟩ _ c3 l3 key _ ((blk_cell X0.out 3).trans rfl) (Kd.C_below HR3.out HB.out)) ?_
  rw [← HI.out]
  rintro e w' ⟨rfl, rfl⟩
  go_wp2_with fail
  go_ret2
  exact ⟨rfl, HB.out⟩
 rw [if_neg ci] at h
 have ci0 : decide (i < 0) = false := decide_eq_false ci
 have i0 : 0 ≤ i := by omega
 have i1 : i < (l3.length : Int) := by rw [HI.out]; exact idx_lt _ _ (by rw [← HI.out]; exact i0)
 obtain ⟨Y, hY⟩ : ∃ x, x = l3.getD i.toNat z87 := ⟨_, rfl⟩
 rw [← hY] at h
 have HY := Aside0.mk hY
 clear hY
 obtain ⟨ad, A1, c1, ea, -, hq, hA1, hK⟩ := at_T87 HR3.out i i0 i1
 cases ea
 rw [show rd_T87 l3 i = Y from HY.out.symm] at hq hA1 hK
 have HQ := Aside0.mk hq
 have HA1 := Aside0.mk hA1
 have HK := Aside0.mk hK
 clear hq hA1 hK
 obtain ⟨j, hj, h⟩ := Option.bind_eq_some_iff.mp h
 have HJ := Aside0.mk hj
 clear hj
 by_cases cj : j < 0
 ·rw [if_pos cj] at h
  simp only [Option.some.injEq, Prod.mk.injEq] at h
  obtain ⟨rfl, rfl⟩ := h
  have cj0 : decide (j < 0) = true := decide_eq_true cj
  go_enter Try.func80, Try.ntmps80
  go_wp2_with fail
  have hb : Below w.heap.size w (w.alloc (Obj.cells #[.int .i64 at_, .int .i64 id] 116)) := below_alloc (Below.refl _ _) _
  have hbx := blk_new w (Obj.cells #[.int .i64 at_, .int .i64 id] 116)
  have hsz : w.heap.size + 1 = (w.alloc (Obj.cells #[.int .i64 at_, .int .i64 id] 116)).heap.size := by simp
  replace HB := Aside0.mk (below_alloc HB.out (Obj.cells #[.int .i64 at_, .int .i64 id] 116))
  replace X0 := Aside0.mk (keepB hb X0.out)
  have hbz := Aside0.mk hb
  have hbxz := Aside0.mk hbx
  have hszz := Aside0.mk hsz
  clear hb hbx hsz
  generalize w.alloc (Obj.cells #[.int .i64 at_, .int .i64 id] 116) = u1 at HB hbz hbxz hszz X0 ⊢
  have X1 := hbxz
  have z1 := hszz
  clear hbz hbxz hszz
  refine Calls.mono (spec_l6Row.at ⟨g, 0, none⟩ _ c3 l3 key _ ((blk_cell X0.out 3).trans rfl) (Kd.C_below HR3.out HB.out)) ?_
  rw [← HI.out]
  rintro e w' ⟨rfl, rfl⟩
  go_wp2_with fail
  refine start_ (n := 11) (S := fun W_ => W_.cell? ⟨g, 3, none⟩ = some (.slice (some ad) l3.length c3) ∧ W_.cell? ⟨(ad.add (i.toNat * 2)).block, (ad.add (i.toNat * 2)).off + 1, none⟩ = some (.slice A1 Y.f1.length c1) ∧ W_.cell? ⟨w.heap.size, 0, none⟩ = some (.int .i64 at_) ∧ W_.cell? ⟨w.heap.size, 1, none⟩ = some (.int .i64 id)) (ds := []) #[false, false, false, false, false, false, false, false, false, false, false] (by kernel_rfl) rfl rfl ⟨(blk_cell X0.out 3).trans rfl, pw_cell_below HB.out HQ.out, (blk_cell X1.out 0).trans rfl, (blk_cell X1.out 1).trans rfl⟩ (fun hHeld => ?_)
  refine zp 0 15 ?_; refine zp 1 16 ?_; refine zp 2 17 ?_; refine zp 4 19 ?_; refine zt 3 18 ?_; refine zp 5 20 ?_; refine zp 6 21 ?_; refine zt 7 22 ?_; refine zt 8 23 ?_
  refine one_ (i := 9) (N := some 24) #[true, true, true, true, true, true, true, true, true, true, false] rfl rfl (by kernel_rfl) (by decide) (fun K hK => ?_)
  refine goes_ Try.func127 (by kernel_rfl) rfl #[.slice A1 Y.f1.length c1, .agg #[.int .i64 at_, .int .i64 id]] (by rfl) rfl rfl zm ?_
  with_reducible refine (spec_l5Seen.calls k A1 c1 Y.f1 at_ id j _ (Kd.C_drew (Kd.C_below HK.out HB.out)) HA1.out HJ.out).mono ?_
  rintro e ua ⟨rfl, hb⟩
  refine ⟨_, rfl, ?_⟩
  replace hb : Below u1.heap.size u1 ua := below_step (below_drew (Below.refl _ _)) hb
  replace HB := Aside0.mk (show Below w.heap.size w ua from below_step HB.out hb)
  have hsz := Aside0.mk hb.size
  replace X0 := Aside0.mk (keepB hb X0.out)
  replace X1 := Aside0.mk (keepB hb X1.out)
  have z2 := hsz
  clear hsz hb
  refine hK.out _ _ ⟨(blk_cell X0.out 3).trans rfl, pw_cell_below HB.out HQ.out, (blk_cell X1.out 0).trans rfl, (blk_cell X1.out 1).trans rfl⟩ (fun hHeld => ?_)
  clear hK K
  refine norm_ (a' := ?_) ?_ ?_
  rotate_left
  ·show Act.put _ (some 24) _ = _
   simp only [Act.put, List.setIfInBounds_toArray, List.set_cons_zero, List.set_cons_succ, i64_w, i32_w]
   rfl
  refine zp 10 9 ?_
  refine done_ (by kernel_rfl) ?_
  go_wp2_with fail
  go_ret2
  exact ⟨rfl, HB.out⟩
 ·rw [if_neg cj] at h
  have cj0 : decide (j < 0) = false := decide_eq_false cj
  have j0 : 0 ≤ j := by omega
  by_cases j1 : j < (Y.f1.length : Int)
  ·rw [if_pos j1] at h
   simp only [Option.some.injEq, Prod.mk.injEq] at h
   obtain ⟨rfl, rfl⟩ := h
   obtain ⟨ad2, ea, -, -, -, hq3⟩ := at_T90 HK.out j j0 j1
   cases ea
   have HQ3 := Aside0.mk hq3
   clear hq3
   go_enter Try.func80, Try.ntmps80
   go_wp2_with fail
   have hb : Below w.heap.size w (w.alloc (Obj.cells #[.int .i64 at_, .int .i64 id] 116)) := below_alloc (Below.refl _ _) _
   have hbx := blk_new w (Obj.cells #[.int .i64 at_, .int .i64 id] 116)
   have hsz : w.heap.size + 1 = (w.alloc (Obj.cells #[.int .i64 at_, .int .i64 id] 116)).heap.size := by simp
   replace HB := Aside0.mk (below_alloc HB.out (Obj.cells #[.int .i64 at_, .int .i64 id] 116))
   replace X0 := Aside0.mk (keepB hb X0.out)
   have hbz := Aside0.mk hb
   have hbxz := Aside0.mk hbx
   have hszz := Aside0.mk hsz
   clear hb hbx hsz
   generalize w.alloc (Obj.cells #[.int .i64 at_, .int .i64 id] 116) = u1 at HB hbz hbxz hszz X0 ⊢
   have X1 := hbxz
   have z1 := hszz
   clear hbz hbxz hszz
   refine Calls.mono (spec_l6Row.at ⟨g, 0, none⟩ _ c3 l3 key _ ((blk_cell X0.out 3).trans rfl) (Kd.C_below HR3.out HB.out)) ?_
   rw [← HI.out]
   rintro e w' ⟨rfl, rfl⟩
   go_wp2_with fail
   refine start_ (n := 11) (S := fun W_ => W_.cell? ⟨g, 3, none⟩ = some (.slice (some ad) l3.length c3) ∧ W_.cell? ⟨(ad.add (i.toNat * 2)).block, (ad.add (i.toNat * 2)).off + 1, none⟩ = some (.slice (some ad2) Y.f1.length c1) ∧ W_.cell? ⟨w.heap.size, 0, none⟩ = some (.int .i64 at_) ∧ W_.cell? ⟨w.heap.size, 1, none⟩ = some (.int .i64 id)) (ds := []) #[false, false, false, false, false, false, false, false, false, false, false] (by kernel_rfl) rfl rfl ⟨(blk_cell X0.out 3).trans rfl, pw_cell_below HB.out HQ.out, (blk_cell X1.out 0).trans rfl, (blk_cell X1.out 1).trans rfl⟩ (fun hHeld => ?_)
   refine zp 0 15 ?_; refine zp 1 16 ?_; refine zp 2 17 ?_; refine zp 4 19 ?_; refine zt 3 18 ?_; refine zp 5 20 ?_; refine zp 6 21 ?_; refine zt 7 22 ?_; refine zt 8 23 ?_
   refine one_ (i := 9) (N := some 24) #[true, true, true, true, true, true, true, true, true, true, false] rfl rfl (by kernel_rfl) (by decide) (fun K hK => ?_)
   refine goes_ Try.func127 (by kernel_rfl) rfl #[.slice (some ad2) Y.f1.length c1, .agg #[.int .i64 at_, .int .i64 id]] (by rfl) rfl rfl zm ?_
   with_reducible refine (spec_l5Seen.calls k (some ad2) c1 Y.f1 at_ id j _ (Kd.C_drew (Kd.C_below HK.out HB.out)) HA1.out HJ.out).mono ?_
   rintro e ua ⟨rfl, hb⟩
   refine ⟨_, rfl, ?_⟩
   replace hb : Below u1.heap.size u1 ua := below_step (below_drew (Below.refl _ _)) hb
   replace HB := Aside0.mk (show Below w.heap.size w ua from below_step HB.out hb)
   have hsz := Aside0.mk hb.size
   replace X0 := Aside0.mk (keepB hb X0.out)
   replace X1 := Aside0.mk (keepB hb X1.out)
   have z2 := hsz
   clear hsz hb
   refine hK.out _ _ ⟨(blk_cell X0.out 3).trans rfl, pw_cell_below HB.out HQ.out, (blk_cell X1.out 0).trans rfl, (blk_cell X1.out 1).trans rfl⟩ (fun hHeld => ?_)
   clear hK K
   refine norm_ (a' := ?_) ?_ ?_
   rotate_left
   ·show Act.put _ (some 24) _ = _
    simp only [Act.put, List.setIfInBounds_toArray, List.set_cons_zero, List.set_cons_succ, i64_w, i32_w]
    rfl
   refine zp 10 9 ?_
   refine done_ (by kernel_rfl) ?_
   have cX0_0 : ua.cell? ⟨g, 0, none⟩ = some (.int .i64 a0_0) := (blk_cell X0.out 0).trans rfl
   have cX0_1 : ua.cell? ⟨g, 1, none⟩ = some (.int .i64 a0_1) := (blk_cell X0.out 1).trans rfl
   have cX0_2 : ua.cell? ⟨g, 2, none⟩ = some (.slice A2 l2.length c2) := (blk_cell X0.out 2).trans rfl
   have cX0_3 : ua.cell? ⟨g, 3, none⟩ = some (.slice (some ad) l3.length c3) := (blk_cell X0.out 3).trans rfl
   have lX0 : g < ua.heap.size := blk_lt X0.out
   have nX0 : g ≠ ua.heap.size := Nat.ne_of_lt (blk_lt X0.out)
   have d1_ := pw_cell_below HB.out HQ.out
   have d2_ := pw_cell_below HB.out HQ3.out
   go_wp2_with fail
   go_ret2
   exact ⟨rfl, HB.out⟩
  exact absurd h (by rw [if_neg j1]; simp)
-- PROOF --
set_option maxHeartbeats 8000000 in
set_option maxRecDepth 100000 in
theorem spec_l6View.at (p : Addr) (id at_ : Int) (w : World) (q0 : w.cell? p = some (.int .i64 id)) (q1 : w.cell? ⟨p.block, p.off + 1, none⟩ = some (.int .i64 at_)) :
 Calls Try.prog 81 #[.pointer (some p)] w fun e w' => e = .returned (.agg #[.int .i64 at_, .int .i64 id]) ∧ Below w.heap.size w w' := by
 have hu83 := Try.underlying83
 have hu116 := Try.underlying116
 have HB := Aside0.mk (Below.refl w.heap.size w)
 have r0 := (World.cell?_alloc_lt w (Obj.cells #[.int .i64 0, .int .i64 0] 116) _ (World.block_lt_of_cell? w _ q0)).trans q0
 have r1 := (World.cell?_alloc_lt w (Obj.cells #[.int .i64 0, .int .i64 0] 116) _ (World.block_lt_of_cell? w _ q1)).trans q1
 have b0 := blk_new w (Obj.cells #[.int .i64 0, .int .i64 0] 116)
 have HU := Aside0.mk (below_alloc (Below.refl w.heap.size w) (Obj.cells #[.int .i64 0, .int .i64 0] 116))
 have B0 := Aside0.mk b0
 clear b0
 go_enter Try.func81, Try.ntmps81
 go_wp2_with fail
 generalize w.alloc (Obj.cells #[.int .i64 0, .int .i64 0] 116) = u at r0 r1 B0 HU ⊢
 have x0 : u.cell? ⟨w.heap.size, 0, none⟩ = some (.int .i64 0) := (blk_cell B0.out 0).trans rfl
 have x1 : u.cell? ⟨w.heap.size, 1, none⟩ = some (.int .i64 0) := (blk_cell B0.out 1).trans rfl
 have y0 : u.frozen? ⟨w.heap.size, 0, none⟩ = false := blk_frozen B0.out 0
 have y1 : u.frozen? ⟨w.heap.size, 1, none⟩ = false := blk_frozen B0.out 1
 go_still_tail 9, (by kernel_rfl)
 go_wp2_with fail
 have HB := HU
 have GEB0 := Aside0.mk (Nat.le_refl w.heap.size)
 refine bodyPost_ret (results_cell_row rfl _ _ (w.heap.size) 116 #[.int .i64 at_, .int .i64 id] (0, 0) _ rfl (by refine zQ ?_; refine blk_put (cs := #[.int .i64 at_, .int .i64 0]) ?_ 1 _ rfl; refine zQ ?_; refine blk_put (cs := #[.int .i64 0, .int .i64 0]) ?_ 0 _ rfl; refine zQ ?_; exact B0.out) Try.underlying116 rfl (by kernel_rfl)) rfl ?_
 exact ⟨rfl, zb⟩
-- PROOF --
set_option maxHeartbeats 4000000 in
set_option maxRecDepth 100000 in
theorem idIs.calls (x : S83) (A4 : Option Addr) (c4 : Nat) (id : Int) (B : Nat) (W : World) (hB : B < W.heap.size) (q1 : W.cell? ⟨B, 0, none⟩ = some (.int .i64 id)) :
 Calls Try.prog 128 #[.agg #[.int .i64 x.f0, .int .i64 x.f1, .int .i64 x.f2, .int .i64 x.f3, .slice A4 x.f4.length c4], .pointer (some ⟨B, 0, none⟩)] W fun e w' => e = .returned (.bool (x.f0 == id)) ∧ Below W.heap.size W w' := by
 have hu83 := Try.underlying83
 rcases x with ⟨a, b, c, d, l⟩
 have HB := Aside0.mk (Below.refl W.heap.size W)
 have hne : B ≠ W.heap.size := by omega
 obtain ⟨t, ht⟩ : ∃ t, (a == id) = t := ⟨_, rfl⟩
 show Calls Try.prog 128 _ W fun e w' => e = .returned (.bool (a == id)) ∧ Below W.heap.size W w'
 rw [ht]
 go_enter Try.func128, Try.ntmps128
 go_wp2
 go_ret
 exact ⟨rfl, HB.out.alloc (Nat.le_refl _) _⟩
set_option maxHeartbeats 8000000 in
set_option maxRecDepth 100000 in
theorem impl_Engine_txn.at {g : Nat} (a0_0 a0_1 : Int) (A2 : Option Addr) (c2 : Nat) (l2 : List S83) (A3 : Option Addr) (c3 : Nat) (l3 : List S87) (id : Int) (w : World) (hr2 : Kd.C k83 w A2 l2.length l2) (hc2 : l2.length ≤ c2) (hr3 : Kd.C k87 w A3 l3.length l3) (hc3 : l3.length ≤ c3) (hbx : Aside0 (w.heap[g]? = some (Obj.cells #[.int .i64 a0_0, .int .i64 a0_1, .slice A2 l2.length c2, .slice A3 l3.length c3] 31))) :
 Calls Try.prog 82 #[.pointer (some ⟨g, 0, none⟩), .int .i64 id] w fun e w' => (∃ p, e = .returned (.tuple #[.pointer p, .int .i64 (etxF l2 id)]) ∧ (etxF l2 id = 0 → ∃ ad, A2 = some ad ∧ p = some (ad.add ((Lb.idx (fun u : S83 => u.f0 == id) l2).toNat * 5)))) ∧ Below w.heap.size w w' := by
 have hu31 := Try.underlying31
 have hu83 := Try.underlying83
 have HB := Aside0.mk (Below.refl w.heap.size w)
 have X0 := hbx
 clear hbx
 have HR2 := Aside0.mk hr2
 have HR3 := Aside0.mk hr3
 have HC2 := Aside0.mk hc2
 have HC3 := Aside0.mk hc3
 have hn2 := hr2.2.1
 have hn3 := hr3.2.1
 clear hr2 hr3 hc2 hc3
 unfold etxF
 obtain ⟨i, hi⟩ : ∃ i, i = Lb.idx (fun u : S83 => u.f0 == id) l2 := ⟨_, rfl⟩
 rw [← hi]
 have HI := Aside0.mk hi
 clear hi
 by_cases ci : i < 0
 ·rw [if_pos ci]
  have ci0 : decide (i < 0) = true := decide_eq_true ci
  have cX0_0 : w.cell? ⟨g, 0, none⟩ = some (.int .i64 a0_0) := (blk_cell X0.out 0).trans rfl
  have cX0_1 : w.cell? ⟨g, 1, none⟩ = some (.int .i64 a0_1) := (blk_cell X0.out 1).trans rfl
  have cX0_2 : w.cell? ⟨g, 2, none⟩ = some (.slice A2 l2.length c2) := (blk_cell X0.out 2).trans rfl
  have cX0_3 : w.cell? ⟨g, 3, none⟩ = some (.slice A3 l3.length c3) := (blk_cell X0.out 3).trans rfl
  have lX0 : g < w.heap.size := blk_lt X0.out
  have nX0 : g ≠ w.heap.size := Nat.ne_of_lt (blk_lt X0.out)
  go_enter Try.func82, Try.ntmps82
  go_wp2_with fail
  clear cX0_0 cX0_1 cX0_2 cX0_3 lX0 nX0
  have hb : Below w.heap.size w (w.alloc (Obj.cells #[.int .i64 id] 2)) := below_alloc (Below.refl _ _) _
  have hbx := blk_new w (Obj.cells #[.int .i64 id] 2)
  have hsz : w.heap.size + 1 = (w.alloc (Obj.cells #[.int .i64 id] 2)).heap.size := by simp
  replace HB := Aside0.mk (below_alloc HB.out (Obj.cells #[.int .i64 id] 2))
  replace X0 := Aside0.mk (keepB hb X0.out)
  have hbz := Aside0.mk hb
  have hbxz := Aside0.mk hbx
  have hszz := Aside0.mk hsz
  clear hb hbx hsz
  generalize w.alloc (Obj.cells #[.int .i64 id] 2) = u1 at HB hbz hbxz hszz X0 ⊢
  have X1 := hbxz
  have z1 := hszz
  clear hbz hbxz hszz
  refine (slices_IndexFunc_impl_Txn.calls 128 #[.pointer (some ⟨w.heap.size, 0, none⟩)] (fun u : S83 => u.f0 == id) _ c2 l2 _ (Kd.C_below HR2.out HB.out) (fun W2 x A4 c4 _ hb _ _ => idIs.calls x A4 c4 id w.heap.size W2 (Nat.lt_of_lt_of_le (blk_lt X1.out) hb.size) ((hb.cell (p := ⟨w.heap.size, 0, none⟩) (blk_lt X1.out)).trans ((blk_cell X1.out 0).trans rfl))) (enters_of Try.func128 (by kernel_rfl) rfl)).mono ?_
  rintro e u2 ⟨rfl, hb⟩
  have hsz := hb.size
  replace HB := Aside0.mk (show Below w.heap.size w u2 from below_step HB.out hb)
  replace X0 := Aside0.mk (keepB hb X0.out)
  replace X1 := Aside0.mk (keepB hb X1.out)
  have z2 := Aside0.mk hsz
  clear hsz
  rw [← HI.out]
  have cX0_0 : u2.cell? ⟨g, 0, none⟩ = some (.int .i64 a0_0) := (blk_cell X0.out 0).trans rfl
  have cX0_1 : u2.cell? ⟨g, 1, none⟩ = some (.int .i64 a0_1) := (blk_cell X0.out 1).trans rfl
  have cX0_2 : u2.cell? ⟨g, 2, none⟩ = some (.slice A2 l2.length c2) := (blk_cell X0.out 2).trans rfl
  have cX0_3 : u2.cell? ⟨g, 3, none⟩ = some (.slice A3 l3.length c3) := (blk_cell X0.out 3).trans rfl
  have lX0 : g < u2.heap.size := blk_lt X0.out
  have nX0 : g ≠ u2.heap.size := Nat.ne_of_lt (blk_lt X0.out)
  go_wp2_with fail
  go_ret2
  exact ⟨⟨none, rfl, fun h => absurd h (by decide)⟩, HB.out⟩
 rw [if_neg ci]
 have ci0 : decide (i < 0) = false := decide_eq_false ci
 have i0 : 0 ≤ i := by omega
 have i1 : i < (l2.length : Int) := by rw [HI.out]; exact idx_lt _ _ (by rw [← HI.out]; exact i0)
 obtain ⟨Y, hY⟩ : ∃ x, x = l2.getD i.toNat z83 := ⟨_, rfl⟩
 rw [← hY]
 have HY := Aside0.mk hY
 clear hY
 obtain ⟨ad, A4, c4, ea, -, -, hw2, -, -, -, -⟩ := at_T83 HR2.out i i0 i1
 cases ea
 rw [show rd_T83 l2 i = Y from HY.out.symm] at hw2
 have HW2 := Aside0.mk hw2
 clear hw2
 rcases hb_ (Y.f2 == 1) with cy | cy
 ·rw [if_pos cy]
  have cy1 : (Y.f2 != 1) = false := by simp [bne, cy]
  have cX0_0 : w.cell? ⟨g, 0, none⟩ = some (.int .i64 a0_0) := (blk_cell X0.out 0).trans rfl
  have cX0_1 : w.cell? ⟨g, 1, none⟩ = some (.int .i64 a0_1) := (blk_cell X0.out 1).trans rfl
  have cX0_2 : w.cell? ⟨g, 2, none⟩ = some (.slice (some ad) l2.length c2) := (blk_cell X0.out 2).trans rfl
  have cX0_3 : w.cell? ⟨g, 3, none⟩ = some (.slice A3 l3.length c3) := (blk_cell X0.out 3).trans rfl
  have lX0 : g < w.heap.size := blk_lt X0.out
  have nX0 : g ≠ w.heap.size := Nat.ne_of_lt (blk_lt X0.out)
  go_enter Try.func82, Try.ntmps82
  go_wp2_with fail
  clear cX0_0 cX0_1 cX0_2 cX0_3 lX0 nX0
  have hb : Below w.heap.size w (w.alloc (Obj.cells #[.int .i64 id] 2)) := below_alloc (Below.refl _ _) _
  have hbx := blk_new w (Obj.cells #[.int .i64 id] 2)
  have hsz : w.heap.size + 1 = (w.alloc (Obj.cells #[.int .i64 id] 2)).heap.size := by simp
  replace HB := Aside0.mk (below_alloc HB.out (Obj.cells #[.int .i64 id] 2))
  replace X0 := Aside0.mk (keepB hb X0.out)
  have hbz := Aside0.mk hb
  have hbxz := Aside0.mk hbx
  have hszz := Aside0.mk hsz
  clear hb hbx hsz
  generalize w.alloc (Obj.cells #[.int .i64 id] 2) = u1 at HB hbz hbxz hszz X0 ⊢
  have X1 := hbxz
  have z1 := hszz
  clear hbz hbxz hszz
  refine (slices_IndexFunc_impl_Txn.calls 128 #[.pointer (some ⟨w.heap.size, 0, none⟩)] (fun u : S83 => u.f0 == id) _ c2 l2 _ (Kd.C_below HR2.out HB.out) (fun W2 x A4 c4 _ hb _ _ => idIs.calls x A4 c4 id w.heap.size W2 (Nat.lt_of_lt_of_le (blk_lt X1.out) hb.size) ((hb.cell (p := ⟨w.heap.size, 0, none⟩) (blk_lt X1.out)).trans ((blk_cell X1.out 0).trans rfl))) (enters_of Try.func128 (by kernel_rfl) rfl)).mono ?_
  rintro e u2 ⟨rfl, hb⟩
  have hsz := hb.size
  replace HB := Aside0.mk (show Below w.heap.size w u2 from below_step HB.out hb)
  replace X0 := Aside0.mk (keepB hb X0.out)
  replace X1 := Aside0.mk (keepB hb X1.out)
  have z2 := Aside0.mk hsz
  clear hsz
  rw [← HI.out]
  have hy2 := (HB.out.cell (World.block_lt_of_cell? w _ HW2.out)).trans HW2.out
  have cX0_0 : u2.cell? ⟨g, 0, none⟩ = some (.int .i64 a0_0) := (blk_cell X0.out 0).trans rfl
  have cX0_1 : u2.cell? ⟨g, 1, none⟩ = some (.int .i64 a0_1) := (blk_cell X0.out 1).trans rfl
  have cX0_2 : u2.cell? ⟨g, 2, none⟩ = some (.slice (some ad) l2.length c2) := (blk_cell X0.out 2).trans rfl
  have cX0_3 : u2.cell? ⟨g, 3, none⟩ = some (.slice A3 l3.length c3) := (blk_cell X0.out 3).trans rfl
  have lX0 : g < u2.heap.size := blk_lt X0.out
  have nX0 : g ≠ u2.heap.size := Nat.ne_of_lt (blk_lt X0.out)
  go_wp2_with fail
  go_ret2
  exact ⟨⟨_, rfl, fun _ => ⟨ad, rfl, rfl⟩⟩, HB.out⟩
 ·rw [if_neg (by rw [cy]; decide)]
  have cy1 : (Y.f2 != 1) = true := by simp [bne, cy]
  have cX0_0 : w.cell? ⟨g, 0, none⟩ = some (.int .i64 a0_0) := (blk_cell X0.out 0).trans rfl
  have cX0_1 : w.cell? ⟨g, 1, none⟩ = some (.int .i64 a0_1) := (blk_cell X0.out 1).trans rfl
  have cX0_2 : w.cell? ⟨g, 2, none⟩ = some (.slice (some ad) l2.length c2) := (blk_cell X0.out 2).trans rfl
  have cX0_3 : w.cell? ⟨g, 3, none⟩ = some (.slice A3 l3.length c3) := (blk_cell X0.out 3).trans rfl
  have lX0 : g < w.heap.size := blk_lt X0.out
  have nX0 : g ≠ w.heap.size := Nat.ne_of_lt (blk_lt X0.out)
  go_enter Try.func82, Try.ntmps82
  go_wp2_with fail
  clear cX0_0 cX0_1 cX0_2 cX0_3 lX0 nX0
  have hb : Below w.heap.size w (w.alloc (Obj.cells #[.int .i64 id] 2)) := below_alloc (Below.refl _ _) _
  have hbx := blk_new w (Obj.cells #[.int .i64 id] 2)
  have hsz : w.heap.size + 1 = (w.alloc (Obj.cells #[.int .i64 id] 2)).heap.size := by simp
  replace HB := Aside0.mk (below_alloc HB.out (Obj.cells #[.int .i64 id] 2))
  replace X0 := Aside0.mk (keepB hb X0.out)
  have hbz := Aside0.mk hb
  have hbxz := Aside0.mk hbx
  have hszz := Aside0.mk hsz
  clear hb hbx hsz
  generalize w.alloc (Obj.cells #[.int .i64 id] 2) = u1 at HB hbz hbxz hszz X0 ⊢
  have X1 := hbxz
  have z1 := hszz
  clear hbz hbxz hszz
  refine (slices_IndexFunc_impl_Txn.calls 128 #[.pointer (some ⟨w.heap.size, 0, none⟩)] (fun u : S83 => u.f0 == id) _ c2 l2 _ (Kd.C_below HR2.out HB.out) (fun W2 x A4 c4 _ hb _ _ => idIs.calls x A4 c4 id w.heap.size W2 (Nat.lt_of_lt_of_le (blk_lt X1.out) hb.size) ((hb.cell (p := ⟨w.heap.size, 0, none⟩) (blk_lt X1.out)).trans ((blk_cell X1.out 0).trans rfl))) (enters_of Try.func128 (by kernel_rfl) rfl)).mono ?_
  rintro e u2 ⟨rfl, hb⟩
  have hsz := hb.size
  replace HB := Aside0.mk (show Below w.heap.size w u2 from below_step HB.out hb)
  replace X0 := Aside0.mk (keepB hb X0.out)
  replace X1 := Aside0.mk (keepB hb X1.out)
  have z2 := Aside0.mk hsz
  clear hsz
  rw [← HI.out]
  have hy2 := (HB.out.cell (World.block_lt_of_cell? w _ HW2.out)).trans HW2.out
  have cX0_0 : u2.cell? ⟨g, 0, none⟩ = some (.int .i64 a0_0) := (blk_cell X0.out 0).trans rfl
  have cX0_1 : u2.cell? ⟨g, 1, none⟩ = some (.int .i64 a0_1) := (blk_cell X0.out 1).trans rfl
  have cX0_2 : u2.cell? ⟨g, 2, none⟩ = some (.slice (some ad) l2.length c2) := (blk_cell X0.out 2).trans rfl
  have cX0_3 : u2.cell? ⟨g, 3, none⟩ = some (.slice A3 l3.length c3) := (blk_cell X0.out 3).trans rfl
  have lX0 : g < u2.heap.size := blk_lt X0.out
  have nX0 : g ≠ u2.heap.size := Nat.ne_of_lt (blk_lt X0.out)
  go_wp2_with fail
  go_ret2
  exact ⟨⟨none, rfl, fun h => absurd h (by decide)⟩, HB.out⟩
theorem etxF_ok {l2 : List S83} {id : Int} (h : etxF l2 id = 0) : 0 ≤ Lb.idx (fun u : S83 => u.f0 == id) l2 ∧ Lb.idx (fun u : S83 => u.f0 == id) l2 < (l2.length : Int) := by
 unfold etxF at h
 by_cases c2 : Lb.idx (fun u : S83 => u.f0 == id) l2 < 0
 ·rw [if_pos c2] at h; simp at h
 exact ⟨by simpa using c2, idx_lt _ _ (by omega)⟩
-- PROOF --
set_option maxHeartbeats 1000000 in
theorem impl_seen.p_calls (x : S90) (at_ own : Int) (B : Nat) (W : World) (hB : B < W.heap.size) (q0 : W.cell? ⟨B, 0, none⟩ = some (.int .i64 at_)) (q1 : W.cell? ⟨B, 1, none⟩ = some (.int .i64 own)) :
 Calls Try.prog 145 #[.agg #[.int .i64 x.f0, .int .i64 x.f1, .bool x.f2, .int .i64 x.f3], .pointer (some ⟨B, 0, none⟩)] W fun e w' => e = .returned (.bool (impl_seen.p at_ own x)) ∧ Below W.heap.size W w' := by
 have hu90 := Try.underlying90
 have hu116 := Try.underlying116
 rcases x with ⟨a, b, c, d⟩
 simp only [impl_seen.p]
 have HB := Aside0.mk (Below.refl W.heap.size W)
 have hne : B ≠ W.heap.size := by omega
 by_cases e1 : b = 0
 ·have t1 : (b == 0) = true := by simpa using e1
  have t1' : decide (0 < b) = false := by simp; omega
  have t1'' : decide (b > 0) = false := by simp; omega
  by_cases e2 : a = own
  ·have t2 : (a == own) = true := by simpa using e2
   rw [t1, t2]
   clear e1 e2
   go_enter Try.func145, Try.ntmps145; go_wp2; go_ret; exact ⟨rfl, HB.out.alloc (Nat.le_refl _) _⟩
  have t2 : (a == own) = false := by simpa using e2
  rw [t1, t2, t1'']
  clear e1 e2
  go_enter Try.func145, Try.ntmps145; go_wp2; go_ret; exact ⟨rfl, HB.out.alloc (Nat.le_refl _) _⟩
 have t1 : (b == 0) = false := by simpa using e1
 rw [t1]
 by_cases e3 : 0 < b
 ·have t3 : decide (0 < b) = true := by simpa using e3
  have t3' : decide (b > 0) = true := by simpa using e3
  by_cases e4 : b ≤ at_
  ·have t4 : decide (b ≤ at_) = true := by simpa using e4
   rw [t3', t4]
   clear e1 e3 e4
   go_enter Try.func145, Try.ntmps145; go_wp2; go_ret; exact ⟨rfl, HB.out.alloc (Nat.le_refl _) _⟩
  have t4 : decide (b ≤ at_) = false := by simpa using e4
  rw [t3', t4]
  clear e1 e3 e4
  go_enter Try.func145, Try.ntmps145; go_wp2; go_ret; exact ⟨rfl, HB.out.alloc (Nat.le_refl _) _⟩
 have t3 : decide (0 < b) = false := by simpa using e3
 have t3' : decide (b > 0) = false := by simpa using e3
 rw [t3']
 clear e1 e3
 go_enter Try.func145, Try.ntmps145; go_wp2; go_ret; exact ⟨rfl, HB.out.alloc (Nat.le_refl _) _⟩
set_option maxHeartbeats 8000000 in
set_option maxRecDepth 100000 in
theorem impl_seen.calls (A0 : Option Addr) (c0 : Nat) (l0 : List S90) (a1_0 a1_1 : Int) (r : Int) (w : World) (hr0 : Kd.C k90 w A0 l0.length l0) (hc0 : l0.length ≤ c0) (h : impl_seen.f l0 a1_0 a1_1 = some r) :
 Calls Try.prog 129 #[.slice A0 l0.length c0, .agg #[.int .i64 a1_0, .int .i64 a1_1]] w fun e w' => e = .returned (.int .i64 r) ∧ Below w.heap.size w w' := by
 have hu116 := Try.underlying116
 obtain rfl := Option.some.inj h
 clear h
 have hcon := fun (W : World) (hB : w.heap.size < W.heap.size) (q0 : W.cell? ⟨w.heap.size, 0, none⟩ = some (.int .i64 a1_0)) (q1 : W.cell? ⟨w.heap.size, 1, none⟩ = some (.int .i64 a1_1)) (hr : Kd.C k90 W A0 l0.length l0) =>
  slices_IndexFunc_impl_Version.calls 145 #[.pointer (some ⟨w.heap.size, 0, none⟩)] (impl_seen.p a1_0 a1_1) A0 c0 l0 W hr (fun W2 x _ hb => impl_seen.p_calls x a1_0 a1_1 w.heap.size W2 (Nat.lt_of_lt_of_le hB hb.size) ((hb.cell (p := ⟨w.heap.size, 0, none⟩) hB).trans q0) ((hb.cell (p := ⟨w.heap.size, 1, none⟩) hB).trans q1)) (enters_of Try.func145 (by kernel_rfl) rfl)
 have HR0 := Aside0.mk hr0
 clear hr0
 generalize Go.Proofs.Ytonbnmaelepcbaa.Lb.idx (impl_seen.p a1_0 a1_1) l0 = r at hcon ⊢
 have HC := Aside0.mk hcon
 clear hcon
 go_enter Try.func129, Try.ntmps129
 go_wp2_with (go_at_call 117; refine (HC.out _ (by simp) (by simp) (by simp) (Kd.C_alloc HR0.out _)).mono ?_; rintro e w' ⟨rfl, hb'⟩)
 go_ret
 exact ⟨rfl, ((Below.refl _ w).alloc (Nat.le_refl _) _).trans (hb'.mono (by simp))⟩
end Go.Proofs.Ytonbnmaelepcbaa.P
