import Derived.Test.YtldlnafakfigeaaDoorZz
import Derived.Test.YtldlnafakfigeaaDoorP0
import Derived.Test.YtldlnafakfigeaaDoorPCall2
import Derived.Test.YtldlnafakfigeaaDoorPCall3
import Derived.Test.YtldlnafakfigeaaDoorPDall0
import Derived.Test.YtldlnafakfigeaaDoorWRepsOne
import Derived.Test.YtldlnafakfigeaaDoorWTab
import Derived.Test.YtldlnafakfigeaaDoorLv
namespace Go.Proofs.YtldlnafakfigeaaDoor.P
open Go.RowKit Go.Proofs.YtldlnafakfigeaaDoorW.PrintWords Go.Proofs.YtldlnafakfigeaaDoorW.PrintLast Go.Proofs.YtldlnafakfigeaaDoorW.PrintMore
attribute [local go_sem] max2_int min2_int max_two min_two max_three min_three max_four min_four   -- for this text's walks alone
set_option linter.unusedVariables false
set_option linter.unusedSimpArgs false
def spec_TextOf.T18 : Bool × List (List Nat × List Nat) := (true, [([], []), ([0], [0]), ([], []), ([2], [2]), ([3], [3]), ([1, 4], [1, 4]), ([5], [5]), ([], []), ([7], [7]), ([8, 4], [8]), ([6, 9], [6, 9]), ([10, 9, 0, 1, 2, 3, 4, 5, 6, 7, 8, 9, 10], [0, 10])])
def spec_TextOf.B18 : List Nat := [0, 1, 0, 4, 12, 31, 63, 0, 128, 412, 1023, 2047]
theorem spec_TextOf.tab18 : rtab .any (opsOf Tryd.f5 18) = spec_TextOf.T18 := by kernel_rfl
theorem spec_TextOf.bits18 : waitsOk spec_TextOf.T18.2 spec_TextOf.B18 = true := by kernel_rfl
set_option maxHeartbeats 8000000 in
set_option maxRecDepth 100000 in
theorem spec_TextOf.calls (k : Nat) (a0_0 : Int) (a0_1 : Int) (A0_2 : Option Addr) (c0_2 : Nat) (l0_2 : List (S45)) (A0_3 : Option Addr) (c0_3 : Nat) (l0_3 : List (S49)) (r1 : Int) (r2 : ByteArray) (w : World) (hr0_2 : Kd.C k45 w A0_2 l0_2.length l0_2) (hc0_2 : l0_2.length ≤ c0_2) (hr0_3 : Kd.C k49 w A0_3 l0_3.length l0_3) (hc0_3 : l0_3.length ≤ c0_3) (h : spec_TextOf.f k a0_0 a0_1 l0_2 l0_3 = some (r1, r2)) :
 Calls Tryd.prog 5 #[.agg #[.int .i64 a0_0, .int .i64 a0_1, .slice A0_2 l0_2.length c0_2, .slice A0_3 l0_3.length c0_3]] w fun e w' => e = .returned (.agg #[.int .i64 r1, .string r2]) ∧ Below w.heap.size w w' := by
 have hu33 := Tryd.underlying33
 have hu28 := Tryd.underlying28
 have hu45 := Tryd.underlying45
 have hu51 := Tryd.underlying51
 have HR0_2 := Aside0.mk hr0_2
 have HC0_2 := Aside0.mk hc0_2
 clear hr0_2 hc0_2
 have HR0_3 := Aside0.mk hr0_3
 have HC0_3 := Aside0.mk hc0_3
 clear hr0_3 hc0_3
 have HB := Aside0.mk (Below.refl w.heap.size w)
 have H : ((spec_l6Fault.f k a0_0 a0_1 l0_2 l0_3).bind fun t139 => (if t139 = 0 then ((spec_l7Line.f k (⟨#[99, 108, 111, 99, 107]⟩ : ByteArray) (([a0_1, a0_0] : List Int))).bind fun t143 => (spec_TextOf.l0 k t143 0 a0_0 a0_1 l0_2 l0_3)) else (some (t139, (⟨#[]⟩ : ByteArray))))) = some (r1, r2) := h
 clear h
 replace H := Option.bind_eq_some_iff.mp H
 obtain ⟨t139, A20, H⟩ := H
 replace H : (if t139 = 0 then ((spec_l7Line.f k (⟨#[99, 108, 111, 99, 107]⟩ : ByteArray) (([a0_1, a0_0] : List Int))).bind fun t143 => (spec_TextOf.l0 k t143 0 a0_0 a0_1 l0_2 l0_3)) else (some (t139, (⟨#[]⟩ : ByteArray)))) = some (r1, r2) := H
 have A2 := Aside0.mk A20
 clear A20
 by_cases c3 : t139 = 0
 ·rw [if_pos c3] at H
  have c3b0 : (t139 == 0) = true := beq_iff_eq.mpr c3
  have c3b1 : (t139 != 0) = false := bne_eq_false_iff_eq.mpr c3
  clear c3
  obtain ⟨y140, hy140⟩ : ∃ y_ : List Int, y_ = (([a0_1, a0_0] : List Int)) := ⟨_, rfl⟩
  replace H : ((spec_l7Line.f k (⟨#[99, 108, 111, 99, 107]⟩ : ByteArray) y140).bind fun t143 => (spec_TextOf.l0 k t143 0 a0_0 a0_1 l0_2 l0_3)) = some (r1, r2) := by first | (rw [hy140]; with_reducible exact H) | (have H2_ := (Option.bind_some _ _).symm.trans H; rw [hy140]; with_reducible exact H2_) | (have H2_ := (Option.bind_some _ _).symm.trans H; with_reducible exact H2_) | with_reducible exact H | (rw [hy140]; exact H) | exact H
  have Ny140 := Aside0.mk hy140
  clear hy140
  replace H := Option.bind_eq_some_iff.mp H
  obtain ⟨t143, A40, H⟩ := H
  replace H : (spec_TextOf.l0 k t143 0 a0_0 a0_1 l0_2 l0_3) = some (r1, r2) := H
  have A4 := Aside0.mk A40
  clear A40
  have H' := Aside0.mk H
  clear H
  go_enter Tryd.func5, Tryd.ntmps5
  go_wp2_with (first | ((with_reducible refine gate_dst (N := 1) rfl ?_); refine zE 1 33 #[.int .i64 a0_0, .int .i64 a0_1, .slice A0_2 l0_2.length c0_2, .slice A0_3 l0_3.length c0_3] ?_; intro gb96 hg w5 hbox hb; have BK96 := Aside0.mk hbox; have GW96 := Aside0.mk (zh hg : w.heap.size ≤ gb96); have GE96 := GW96; replace HB := Aside0.mk (below_step zb hb); clear hb hbox hg) | ((with_reducible refine gate_dst (N := 2) rfl ?_); refine zE 2 28 #[.int .i64 0, .string (⟨#[]⟩ : ByteArray)] ?_; intro gb97 hg w6 hbox hb; have BK97 := Aside0.mk hbox; have GW97 := Aside0.mk (zh hg : w.heap.size ≤ gb97); have NB137_138 := zl BK96 hg; have NB138_137 := zL BK96 hg; have GE97 := GW97; replace BK96 := zw BK96 hb; replace HB := Aside0.mk (below_step zb hb); clear hb hbox hg) | ((with_reducible refine gate_callee (f := 12) rfl ?_); refine zj 10 Tryd.func12 #[.pointer (some ⟨gb96, 0, none⟩)] ?_; (with_reducible refine (spec_l6Fault.calls k a0_0 a0_1 _ _ l0_2 _ _ l0_3 t139 _ ?side1 ?side2 ?side3 ?side4 A2.out).mono ?_); (case side1 => exact zc (Kd.C_below HR0_2.out HB.out)); (case side2 => exact HC0_2.out); (case side3 => exact zc (Kd.C_below HR0_3.out HB.out)); (case side4 => exact HC0_3.out); rintro e w7 ⟨rfl, hb⟩; refine ⟨_, rfl, ?_⟩; replace BK96 := zw BK96 hb; replace BK97 := zw BK97 hb; replace HB := Aside0.mk (below_step zb hb); (try clear hb); (try clear hb2); (try clear hk); (try clear hi); have hnb8 := NB137_138.out; have hnc8 := NB138_137.out; obtain ⟨z9_0, z9_1, z9_2, z9_3, j9_0, j9_1, j9_2, j9_3⟩ := Go.Proofs.YtldlnafakfigeaaDoor.Lv.blks4 BK96.out) | ((with_reducible refine gate_dst (N := 19) rfl ?_); refine Kd.R_lit (Kd.int .i64) _ 2 ?hg (N := 19) ?hd (xs := ([a0_1, a0_0] : List Int)) (inner := [.int .i64 a0_1, .int .i64 a0_0]) (ok := fun _ => True) (okp := fun _ => True) ?hr ?hp (fun _ hk => hk) trivial (Below.refl _ _) (Nat.le_refl _) (by simp) ?_; (case hd => rfl); (case hg => rfl); (case hr => first | (go_simp; done) | (go_simp; rfl)); (case hp => exact (Reps.one (show Kd.M (Kd.int .i64) _ _ _ a0_1 [.int .i64 a0_1] from rfl) (Reps.one (show Kd.M (Kd.int .i64) _ _ _ a0_0 [.int .i64 a0_0] from rfl) (Reps.none _ _)))); intro v141 w10 ho11 hb hg_ hnew_; clear hg_ hnew_; (first | rw [← Ny140.out] at ho11 | (simp only [Int.reduceToNat] at ho11; rw [← Ny140.out] at ho11)); have HO142 := Aside0.mk (Kd.R_lower ho11 (below_size zb)); replace BK96 := zw BK96 hb; replace BK97 := zw BK97 hb; replace HB := Aside0.mk (below_step zb hb); clear hb ho11; obtain ⟨Ao12, co12, eo12⟩ := Kd.R_slice HO142.out; subst eo12) | ((with_reducible refine gate_callee (f := 13) rfl ?_); refine zj 20 Tryd.func13 #[.string (⟨#[99, 108, 111, 99, 107]⟩ : ByteArray), .slice Ao12 y140.length co12] ?_; (with_reducible refine (spec_l7Line.calls k (⟨#[99, 108, 111, 99, 107]⟩ : ByteArray) _ _ y140 t143 _ ?side1 ?side2 A4.out).mono ?_); (case side1 => exact zc (Kd.R_reads' HO142.out).2.2); (case side2 => exact (Kd.R_reads' HO142.out).2.1); rintro e w13 ⟨rfl, hb⟩; refine ⟨_, rfl, ?_⟩; replace HO142 := Aside0.mk (Kd.R_below (zr HO142) hb); replace BK96 := zw BK96 hb; replace BK97 := zw BK97 hb; replace HB := Aside0.mk (below_step zb hb); (try clear hb); (try clear hb2); (try clear hk); (try clear hi)))
  go_loopg [4, 5] k (fun kq v4 v5 w' => ∃ (x4_1 : ByteArray) (x5_1 : Int), v4 = .string x4_1 ∧ v5 = .int .i64 x5_1 ∧ Aside0 (spec_TextOf.l0 kq x4_1 x5_1 a0_0 a0_1 l0_2 l0_3 = some (r1, r2)) ∧ Aside0 (kq ≤ k) ∧ Aside0 (w'.heap[gb96]? = some (.cells #[.int .i64 a0_0, .int .i64 a0_1, (.slice A0_2 l0_2.length c0_2), (.slice A0_3 l0_3.length c0_3)] 33 (0, 0))) ∧ Aside0 (w'.heap[gb97]? = some (.cells #[.int .i64 0, .string (⟨#[]⟩ : ByteArray)] 28 (0, 0))) ∧ Aside0 (Below w.heap.size w w'))
  case atStart => exact ⟨(t143), (0), zs, zs, H', ⟨Nat.le_refl _⟩, ⟨zq BK96⟩, ⟨zq BK97⟩, ⟨zb⟩⟩
  case round =>
   clear H'
   try clear c1
   try clear p2
   try clear c3
   try clear c3b0
   try clear c3b1
   try clear c5
   try clear c8
   try clear c12
   try clear c13
   try clear z9_0 z9_1 z9_2 z9_3 j9_0 j9_1 j9_2 j9_3
   obtain ⟨x4_1, x5_1, rfl, rfl, HA, HK1, BK96, BK97, HB⟩ := hrel
   cases gk with
   | zero => exact absurd HA.out (by simp [spec_TextOf.l0])
   | succ k1 =>
    have H := HA.out
    clear HA
    simp only [spec_TextOf.l0] at H
    by_cases c14 : x5_1 < (l0_2.length : Int)
    ·rw [if_pos c14] at H
     have c14b0 : decide (x5_1 < (l0_2.length : Int)) = true := decide_eq_true c14
     clear c14
     by_cases c15 : 0 ≤ x5_1
     ·rw [if_pos c15] at H
      have c15b0 : decide (0 ≤ x5_1) = true := decide_eq_true c15
      clear c15
      obtain ⟨y146, hy146⟩ : ∃ y_ : List Int, y_ = (([(rd_T45 l0_2 x5_1).f0, (rd_T45 l0_2 x5_1).f1, (rd_T45 l0_2 x5_1).f2, (rd_T45 l0_2 x5_1).f3, (((rd_T45 l0_2 x5_1).f4).length : Int)] : List Int)) := ⟨_, rfl⟩
      replace H : ((spec_l7Line.f k1 (⟨#[116, 120, 110]⟩ : ByteArray) y146).bind fun t149 => (if x4_1.size + t149.size ≤ 9223372036854775807 then (spec_TextOf.l0 k1 (x4_1 ++ t149) (wrap64 (x5_1 + 1)) a0_0 a0_1 l0_2 l0_3) else (none))) = some (r1, r2) := by first | (rw [hy146]; with_reducible exact H) | (have H2_ := (Option.bind_some _ _).symm.trans H; rw [hy146]; with_reducible exact H2_) | (have H2_ := (Option.bind_some _ _).symm.trans H; with_reducible exact H2_) | with_reducible exact H | (rw [hy146]; exact H) | exact H
      have Ny146 := Aside0.mk hy146
      clear hy146
      replace H := Option.bind_eq_some_iff.mp H
      obtain ⟨t149, A160, H⟩ := H
      replace H : (if x4_1.size + t149.size ≤ 9223372036854775807 then (spec_TextOf.l0 k1 (x4_1 ++ t149) (wrap64 (x5_1 + 1)) a0_0 a0_1 l0_2 l0_3) else (none)) = some (r1, r2) := H
      have A16 := Aside0.mk A160
      clear A160
      by_cases c17 : x4_1.size + t149.size ≤ 9223372036854775807
      ·rw [if_pos c17] at H
       have c17b0 := eq_true c17
       have c17b1 : decide (x4_1.size + t149.size ≤ 9223372036854775807) = true := decide_eq_true c17
       try have c17b2 : (9223372036854775807 < x4_1.size + t149.size) = False := eq_false (Nat.not_lt.2 c17)
       have H' := Aside0.mk H
       clear H
       have hnb18 := NB137_138.out
       have hnc18 := NB138_137.out
       obtain ⟨z19_0, z19_1, z19_2, z19_3, j19_0, j19_1, j19_2, j19_3⟩ := Go.Proofs.YtldlnafakfigeaaDoor.Lv.blks4 BK96.out
       have p144 : 0 ≤ (x5_1 : Int) := of_decide_eq_true za
       have q144 : x5_1 < (l0_2.length : Int) := of_decide_eq_true za
       obtain ⟨ad144, A144_4, c144_4, e144, hx144_0, hx144_1, hx144_2, hx144_3, hx144_4, hl144_4, hi144_4⟩ := at_T45 HR0_2.out x5_1 p144 q144
       cases e144
       replace hx144_0 := zx HB hx144_0
       replace hx144_1 := zx HB hx144_1
       replace hx144_2 := zx HB hx144_2
       replace hx144_3 := zx HB hx144_3
       replace hx144_4 := zx HB hx144_4
       have HR144_4 := Aside0.mk hi144_4
       have HC144_4 := Aside0.mk hl144_4
       clear hi144_4 hl144_4
       replace p144 := eq_true p144
       replace q144 := eq_true q144
       go_wp2_with (first | ((with_reducible refine gate_dst (N := 6) rfl ?_); refine zE 6 45 #[.int .i64 0, .int .i64 0, .int .i64 0, .int .i64 0, .slice none 0 0] ?_; intro gb145 hg w20 hbox hb; have BK145 := Aside0.mk hbox; have GW145 := Aside0.mk (zh hg : w.heap.size ≤ gb145); have NB137_145 := zl BK96 hg; have NB145_137 := zL BK96 hg; have NB138_145 := zl BK97 hg; have NB145_138 := zL BK97 hg; have GE145 := GW145; replace BK96 := zw BK96 hb; replace BK97 := zw BK97 hb; replace HB := Aside0.mk (below_step zb hb); clear hb hbox hg; have hnb21 := NB145_137.out; have hnc21 := NB137_145.out; have hnb22 := NB145_138.out; have hnc22 := NB138_145.out; obtain ⟨z23_0, z23_1, z23_2, z23_3, z23_4, j23_0, j23_1, j23_2, j23_3, j23_4⟩ := Go.Proofs.YtldlnafakfigeaaDoor.Lv.blks5 BK145.out) | ((with_reducible refine gate_dst (N := 45) rfl ?_); refine Kd.R_lit (Kd.int .i64) _ 2 ?hg (N := 45) ?hd (xs := ([(rd_T45 l0_2 x5_1).f0, (rd_T45 l0_2 x5_1).f1, (rd_T45 l0_2 x5_1).f2, (rd_T45 l0_2 x5_1).f3, (((rd_T45 l0_2 x5_1).f4).length : Int)] : List Int)) (inner := [.int .i64 ((rd_T45 l0_2 x5_1).f0), .int .i64 ((rd_T45 l0_2 x5_1).f1), .int .i64 ((rd_T45 l0_2 x5_1).f2), .int .i64 ((rd_T45 l0_2 x5_1).f3), .int .i64 (((rd_T45 l0_2 x5_1).f4).length : Int)]) (ok := fun _ => True) (okp := fun _ => True) ?hr ?hp (fun _ hk => hk) trivial (Below.refl _ _) (Nat.le_refl _) (by simp) ?_; (case hd => rfl); (case hg => rfl); (case hr => first | (go_simp; done) | (go_simp; rfl)); (case hp => exact (Reps.one (show Kd.M (Kd.int .i64) _ _ _ ((rd_T45 l0_2 x5_1).f0) [.int .i64 ((rd_T45 l0_2 x5_1).f0)] from rfl) (Reps.one (show Kd.M (Kd.int .i64) _ _ _ ((rd_T45 l0_2 x5_1).f1) [.int .i64 ((rd_T45 l0_2 x5_1).f1)] from rfl) (Reps.one (show Kd.M (Kd.int .i64) _ _ _ ((rd_T45 l0_2 x5_1).f2) [.int .i64 ((rd_T45 l0_2 x5_1).f2)] from rfl) (Reps.one (show Kd.M (Kd.int .i64) _ _ _ ((rd_T45 l0_2 x5_1).f3) [.int .i64 ((rd_T45 l0_2 x5_1).f3)] from rfl) (Reps.one (show Kd.M (Kd.int .i64) _ _ _ (((rd_T45 l0_2 x5_1).f4).length : Int) [.int .i64 (((rd_T45 l0_2 x5_1).f4).length : Int)] from rfl) (Reps.none _ _))))))); intro v147 w24 ho25 hb hg_ hnew_; clear hg_ hnew_; (first | rw [← Ny146.out] at ho25 | (simp only [Int.reduceToNat] at ho25; rw [← Ny146.out] at ho25)); have HO148 := Aside0.mk (Kd.R_lower ho25 (below_size zb)); replace BK96 := Aside0.mk (blk_below (g := gb96) (o := .cells #[.int .i64 a0_0, .int .i64 a0_1, .slice (some ad144) l0_2.length c0_2, .slice A0_3 l0_3.length c0_3] 33 (0, 0)) (by refine zQ ?_; refine blk_far ?_ NB137_145.out _; refine zQ ?_; refine blk_far ?_ NB137_145.out _; refine zQ ?_; refine blk_far ?_ NB137_145.out _; refine zQ ?_; refine blk_far ?_ NB137_145.out _; refine zQ ?_; refine blk_far ?_ NB137_145.out _; refine zQ ?_; exact BK96.out) hb); replace BK97 := Aside0.mk (blk_below (g := gb97) (o := .cells #[.int .i64 0, .string (⟨#[]⟩ : ByteArray)] 28 (0, 0)) (by refine zQ ?_; refine blk_far ?_ NB138_145.out _; refine zQ ?_; refine blk_far ?_ NB138_145.out _; refine zQ ?_; refine blk_far ?_ NB138_145.out _; refine zQ ?_; refine blk_far ?_ NB138_145.out _; refine zQ ?_; refine blk_far ?_ NB138_145.out _; refine zQ ?_; exact BK97.out) hb); replace BK145 := Aside0.mk (blk_below (g := gb145) (o := .cells #[.int .i64 ((rd_T45 l0_2 x5_1).f0), .int .i64 ((rd_T45 l0_2 x5_1).f1), .int .i64 ((rd_T45 l0_2 x5_1).f2), .int .i64 ((rd_T45 l0_2 x5_1).f3), .slice A144_4 ((rd_T45 l0_2 x5_1).f4).length c144_4] 45 (0, 0)) (by refine zQ ?_; refine blk_put (cs := #[.int .i64 ((rd_T45 l0_2 x5_1).f0), .int .i64 ((rd_T45 l0_2 x5_1).f1), .int .i64 ((rd_T45 l0_2 x5_1).f2), .int .i64 ((rd_T45 l0_2 x5_1).f3), .slice none 0 0]) ?_ 4 _ rfl; refine zQ ?_; refine blk_put (cs := #[.int .i64 ((rd_T45 l0_2 x5_1).f0), .int .i64 ((rd_T45 l0_2 x5_1).f1), .int .i64 ((rd_T45 l0_2 x5_1).f2), .int .i64 0, .slice none 0 0]) ?_ 3 _ rfl; refine zQ ?_; refine blk_put (cs := #[.int .i64 ((rd_T45 l0_2 x5_1).f0), .int .i64 ((rd_T45 l0_2 x5_1).f1), .int .i64 0, .int .i64 0, .slice none 0 0]) ?_ 2 _ rfl; refine zQ ?_; refine blk_put (cs := #[.int .i64 ((rd_T45 l0_2 x5_1).f0), .int .i64 0, .int .i64 0, .int .i64 0, .slice none 0 0]) ?_ 1 _ rfl; refine zQ ?_; refine blk_put (cs := #[.int .i64 0, .int .i64 0, .int .i64 0, .int .i64 0, .slice none 0 0]) ?_ 0 _ rfl; refine zQ ?_; exact BK145.out) hb); replace HB := Aside0.mk (below_step zb hb); clear hb ho25; obtain ⟨Ao26, co26, eo26⟩ := Kd.R_slice HO148.out; subst eo26) | ((with_reducible refine gate_callee (f := 13) rfl ?_); refine zj 46 Tryd.func13 #[.string (⟨#[116, 120, 110]⟩ : ByteArray), .slice Ao26 y146.length co26] ?_; (with_reducible refine (spec_l7Line.calls k1 (⟨#[116, 120, 110]⟩ : ByteArray) _ _ y146 t149 _ ?side1 ?side2 A16.out).mono ?_); (case side1 => exact zc (Kd.R_reads' HO148.out).2.2); (case side2 => exact (Kd.R_reads' HO148.out).2.1); rintro e w27 ⟨rfl, hb⟩; refine ⟨_, rfl, ?_⟩; replace HO148 := Aside0.mk (Kd.R_below (zr HO148) hb); replace BK96 := zw BK96 hb; replace BK97 := zw BK97 hb; replace BK145 := zw BK145 hb; replace HB := Aside0.mk (below_step zb hb); (try clear hb); (try clear hb2); (try clear hk); (try clear hi)))
       go_roundg k1
       case measure => have := HK1.out; omega
       case rel => exact ⟨(x4_1 ++ t149), (wrap64 (x5_1 + 1)), zs, zs, H', ⟨by have := HK1.out; omega⟩, ⟨zq BK96⟩, ⟨zq BK97⟩, ⟨zb⟩⟩
      rw [if_neg c17] at H
      exact absurd H (by simp)
     rw [if_neg c15] at H
     exact absurd H (by simp)
    rw [if_neg c14] at H
    have c14b0 : decide (x5_1 < (l0_2.length : Int)) = false := decide_eq_false c14
    clear c14
    have H' := Aside0.mk H
    clear H
    have hnb28 := NB137_138.out
    have hnc28 := NB138_137.out
    obtain ⟨z29_0, z29_1, z29_2, z29_3, j29_0, j29_1, j29_2, j29_3⟩ := Go.Proofs.YtldlnafakfigeaaDoor.Lv.blks4 BK96.out
    go_wp2
    go_loopg [4, 7] k1 (fun kq v4 v7 w' => ∃ (x4_2 : ByteArray) (x7_2 : Int), v4 = .string x4_2 ∧ v7 = .int .i64 x7_2 ∧ Aside0 (spec_TextOf.l1 kq x4_2 x7_2 a0_0 a0_1 l0_2 l0_3 = some (r1, r2)) ∧ Aside0 (kq ≤ k1) ∧ Aside0 (w'.heap[gb96]? = some (.cells #[.int .i64 a0_0, .int .i64 a0_1, (.slice A0_2 l0_2.length c0_2), (.slice A0_3 l0_3.length c0_3)] 33 (0, 0))) ∧ Aside0 (w'.heap[gb97]? = some (.cells #[.int .i64 0, .string (⟨#[]⟩ : ByteArray)] 28 (0, 0))) ∧ Aside0 (Below w.heap.size w w'))
    case atStart => exact ⟨(x4_1), (0), zs, zs, H', ⟨Nat.le_refl _⟩, ⟨zq BK96⟩, ⟨zq BK97⟩, ⟨zb⟩⟩
    case round =>
     clear H'
     try clear c1
     try clear p1
     try clear q1
     try clear hx1
     try clear c2
     try clear p2
     try clear c3
     try clear c3b0
     try clear c3b1
     try clear c5
     try clear p6
     try clear c8
     try clear c12
     try clear c13
     try clear c14
     try clear c14b0
     try clear p14
     try clear q14
     try clear hx14
     try clear c15
     try clear c15b0
     try clear c17
     try clear c17b0
     try clear c17b1
     try clear c17b2
     try clear c18
     try clear c21
     try clear c22
     try clear c28
     try clear z19_0 z19_1 z19_2 z19_3
     try clear z23_0 z23_1 z23_2 z23_3 z23_4
     try clear z29_0 z29_1 z29_2 z29_3
     try clear z9_0 z9_1 z9_2 z9_3
     try clear j19_0 j19_1 j19_2 j19_3
     try clear j23_0 j23_1 j23_2 j23_3 j23_4
     try clear j29_0 j29_1 j29_2 j29_3
     try clear j9_0 j9_1 j9_2 j9_3
     try clear hx144_0
     try clear hx144_1
     try clear hx144_2
     try clear hx144_3
     try clear hx144_4
     try clear p144
     try clear p2
     try clear q144
     obtain ⟨x4_2, x7_2, rfl, rfl, HA, HK2, BK96, BK97, HB⟩ := hrel
     cases gk with
     | zero => exact absurd HA.out (by simp [spec_TextOf.l1])
     | succ k2 =>
      have H := HA.out
      clear HA
      simp only [spec_TextOf.l1] at H
      by_cases c30 : x7_2 < (l0_3.length : Int)
      ·rw [if_pos c30] at H
       have c30b0 : decide (x7_2 < (l0_3.length : Int)) = true := decide_eq_true c30
       clear c30
       by_cases c31 : x4_2.size + 4 ≤ 9223372036854775807
       ·rw [if_pos c31] at H
        have c31b0 := eq_true c31
        have c31b1 : decide (x4_2.size + 4 ≤ 9223372036854775807) = true := decide_eq_true c31
        try have c31b2 : (9223372036854775807 < x4_2.size + 4) = False := eq_false (Nat.not_lt.2 c31)
        by_cases c32 : 0 ≤ x7_2
        ·rw [if_pos c32] at H
         have c32b0 : decide (0 ≤ x7_2) = true := decide_eq_true c32
         clear c32
         replace H := Option.bind_eq_some_iff.mp H
         obtain ⟨t151, A330, H⟩ := H
         replace H : (if (x4_2 ++ (⟨#[114, 111, 119, 32]⟩ : ByteArray)).size + t151.size ≤ 9223372036854775807 then (spec_TextOf.l2 k2 ((x4_2 ++ (⟨#[114, 111, 119, 32]⟩ : ByteArray)) ++ t151) x7_2 0 a0_0 a0_1 l0_2 l0_3) else (none)) = some (r1, r2) := H
         have A33 := Aside0.mk A330
         clear A330
         by_cases c34 : (x4_2 ++ (⟨#[114, 111, 119, 32]⟩ : ByteArray)).size + t151.size ≤ 9223372036854775807
         ·rw [if_pos c34] at H
          have c34b0 := eq_true c34
          have c34b1 : decide ((x4_2 ++ (⟨#[114, 111, 119, 32]⟩ : ByteArray)).size + t151.size ≤ 9223372036854775807) = true := decide_eq_true c34
          try have c34b2 : (9223372036854775807 < (x4_2 ++ (⟨#[114, 111, 119, 32]⟩ : ByteArray)).size + t151.size) = False := eq_false (Nat.not_lt.2 c34)
          have c34b3 : (9223372036854775807 < x4_2.size + 4 + t151.size) = False := eq_false (by have h_ := c34; simp only [ByteArray.size_append, show (⟨#[114, 111, 119, 32]⟩ : ByteArray).size = 4 from rfl] at h_; omega)
          have H' := Aside0.mk H
          clear H
          have hnb35 := NB137_138.out
          have hnc35 := NB138_137.out
          obtain ⟨z36_0, z36_1, z36_2, z36_3, j36_0, j36_1, j36_2, j36_3⟩ := Go.Proofs.YtldlnafakfigeaaDoor.Lv.blks4 BK96.out
          have p150 : 0 ≤ (x7_2 : Int) := of_decide_eq_true za
          have q150 : x7_2 < (l0_3.length : Int) := of_decide_eq_true za
          obtain ⟨ad150, A150_1, c150_1, e150, hx150_0, hx150_1, hl150_1, hi150_1⟩ := at_T49 HR0_3.out x7_2 p150 q150
          cases e150
          replace hx150_0 := zx HB hx150_0
          replace hx150_1 := zx HB hx150_1
          have HR150_1 := Aside0.mk hi150_1
          have HC150_1 := Aside0.mk hl150_1
          clear hi150_1 hl150_1
          replace p150 := eq_true p150
          replace q150 := eq_true q150
          go_wp2_with (first | ((with_reducible refine gate_callee (f := 14) rfl ?_); refine zj 63 Tryd.func14 #[.int .i64 ((rd_T49 l0_3 x7_2).f0)] ?_; (with_reducible refine (spec_l7Digits.calls k2 ((rd_T49 l0_3 x7_2).f0) t151 _ A33.out).mono ?_); rintro e w37 ⟨rfl, hb⟩; refine ⟨_, rfl, ?_⟩; replace BK96 := zw BK96 hb; replace BK97 := zw BK97 hb; replace HB := Aside0.mk (below_step zb hb); (try clear hb); (try clear hb2); (try clear hk); (try clear hi)))
          go_loopg [4, 8] k2 (fun kq v4 v8 w' => ∃ (x4_3 : ByteArray) (x8_3 : Int), v4 = .string x4_3 ∧ v8 = .int .i64 x8_3 ∧ Aside0 (spec_TextOf.l2 kq x4_3 x7_2 x8_3 a0_0 a0_1 l0_2 l0_3 = some (r1, r2)) ∧ Aside0 (kq ≤ k2) ∧ Aside0 (w'.heap[gb96]? = some (.cells #[.int .i64 a0_0, .int .i64 a0_1, (.slice A0_2 l0_2.length c0_2), (.slice (some ad150) l0_3.length c0_3)] 33 (0, 0))) ∧ Aside0 (w'.heap[gb97]? = some (.cells #[.int .i64 0, .string (⟨#[]⟩ : ByteArray)] 28 (0, 0))) ∧ Aside0 (Below w.heap.size w w'))
          case atStart => exact ⟨((x4_2 ++ (⟨#[114, 111, 119, 32]⟩ : ByteArray)) ++ t151), (0), zs, zs, H', ⟨Nat.le_refl _⟩, ⟨zq BK96⟩, ⟨zq BK97⟩, ⟨zb⟩⟩
          case round =>
           clear H'
           try clear c1
           try clear p1
           try clear q1
           try clear hx1
           try clear c2
           try clear p2
           try clear c3
           try clear c3b0
           try clear c3b1
           try clear c5
           try clear p6
           try clear c8
           try clear c12
           try clear c13
           try clear c14
           try clear c14b0
           try clear p14
           try clear q14
           try clear hx14
           try clear c15
           try clear c15b0
           try clear p15
           try clear q15
           try clear hx15
           try clear c17
           try clear c17b0
           try clear c17b1
           try clear c17b2
           try clear c18
           try clear c21
           try clear c22
           try clear c28
           try clear c30
           try clear c30b0
           try clear c31
           try clear c31b0
           try clear c31b1
           try clear c31b2
           try clear c32
           try clear c32b0
           try clear c34
           try clear c34b0
           try clear c34b1
           try clear c34b2
           try clear c35
           try clear z19_0 z19_1 z19_2 z19_3
           try clear z23_0 z23_1 z23_2 z23_3 z23_4
           try clear z29_0 z29_1 z29_2 z29_3
           try clear z36_0 z36_1 z36_2 z36_3
           try clear z9_0 z9_1 z9_2 z9_3
           try clear j19_0 j19_1 j19_2 j19_3
           try clear j23_0 j23_1 j23_2 j23_3 j23_4
           try clear j29_0 j29_1 j29_2 j29_3
           try clear j36_0 j36_1 j36_2 j36_3
           try clear j9_0 j9_1 j9_2 j9_3
           try clear hx144_0
           try clear hx144_1
           try clear hx144_2
           try clear hx144_3
           try clear hx144_4
           try clear hx150_0
           try clear hx150_1
           try clear p1
           try clear p14
           try clear p144
           try clear p150
           try clear p2
           try clear p6
           try clear q1
           try clear q14
           try clear q144
           try clear q150
           obtain ⟨x4_3, x8_3, rfl, rfl, HA, HK3, BK96, BK97, HB⟩ := hrel
           cases gk with
           | zero => exact absurd HA.out (by simp [spec_TextOf.l2])
           | succ k3 =>
            have H := HA.out
            clear HA
            simp only [spec_TextOf.l2] at H
            by_cases c38 : 0 ≤ x7_2
            ·rw [if_pos c38] at H
             have c38b0 : decide (0 ≤ x7_2) = true := decide_eq_true c38
             clear c38
             by_cases c39 : x7_2 < (l0_3.length : Int)
             ·rw [if_pos c39] at H
              have c39b0 : decide (x7_2 < (l0_3.length : Int)) = true := decide_eq_true c39
              clear c39
              by_cases c40 : x8_3 < (((rd_T49 l0_3 x7_2).f1).length : Int)
              ·rw [if_pos c40] at H
               have c40b0 : decide (x8_3 < (((rd_T49 l0_3 x7_2).f1).length : Int)) = true := decide_eq_true c40
               clear c40
               by_cases c41 : 0 ≤ x8_3
               ·rw [if_pos c41] at H
                have c41b0 : decide (0 ≤ x8_3) = true := decide_eq_true c41
                clear c41
                by_cases c42 : x4_3.size + 1 ≤ 9223372036854775807
                ·rw [if_pos c42] at H
                 have c42b0 := eq_true c42
                 have c42b1 : decide (x4_3.size + 1 ≤ 9223372036854775807) = true := decide_eq_true c42
                 try have c42b2 : (9223372036854775807 < x4_3.size + 1) = False := eq_false (Nat.not_lt.2 c42)
                 replace H := Option.bind_eq_some_iff.mp H
                 obtain ⟨t156, A430, H⟩ := H
                 replace H : (if (x4_3 ++ (⟨#[32]⟩ : ByteArray)).size + t156.size ≤ 9223372036854775807 then (if ((x4_3 ++ (⟨#[32]⟩ : ByteArray)) ++ t156).size + 1 ≤ 9223372036854775807 then ((spec_l7Digits.f k3 ((rd_T51 ((rd_T49 l0_3 x7_2).f1) x8_3).f1)).bind fun t157 => (if (((x4_3 ++ (⟨#[32]⟩ : ByteArray)) ++ t156) ++ (⟨#[58]⟩ : ByteArray)).size + t157.size ≤ 9223372036854775807 then (if (rd_T51 ((rd_T49 l0_3 x7_2).f1) x8_3).f2 = true then (if ((((x4_3 ++ (⟨#[32]⟩ : ByteArray)) ++ t156) ++ (⟨#[58]⟩ : ByteArray)) ++ t157).size + 1 ≤ 9223372036854775807 then (spec_TextOf.l2 k3 (((((x4_3 ++ (⟨#[32]⟩ : ByteArray)) ++ t156) ++ (⟨#[58]⟩ : ByteArray)) ++ t157) ++ (⟨#[45]⟩ : ByteArray)) x7_2 (wrap64 (x8_3 + 1)) a0_0 a0_1 l0_2 l0_3) else (none)) else (if ((((x4_3 ++ (⟨#[32]⟩ : ByteArray)) ++ t156) ++ (⟨#[58]⟩ : ByteArray)) ++ t157).size + 1 ≤ 9223372036854775807 then ((spec_l7Digits.f k3 ((rd_T51 ((rd_T49 l0_3 x7_2).f1) x8_3).f3)).bind fun t158 => (if (((((x4_3 ++ (⟨#[32]⟩ : ByteArray)) ++ t156) ++ (⟨#[58]⟩ : ByteArray)) ++ t157) ++ (⟨#[61]⟩ : ByteArray)).size + t158.size ≤ 9223372036854775807 then (spec_TextOf.l2 k3 ((((((x4_3 ++ (⟨#[32]⟩ : ByteArray)) ++ t156) ++ (⟨#[58]⟩ : ByteArray)) ++ t157) ++ (⟨#[61]⟩ : ByteArray)) ++ t158) x7_2 (wrap64 (x8_3 + 1)) a0_0 a0_1 l0_2 l0_3) else (none))) else (none))) else (none))) else (none)) else (none)) = some (r1, r2) := H
                 have A43 := Aside0.mk A430
                 clear A430
                 by_cases c44 : (x4_3 ++ (⟨#[32]⟩ : ByteArray)).size + t156.size ≤ 9223372036854775807
                 ·rw [if_pos c44] at H
                  have c44b0 := eq_true c44
                  have c44b1 : decide ((x4_3 ++ (⟨#[32]⟩ : ByteArray)).size + t156.size ≤ 9223372036854775807) = true := decide_eq_true c44
                  try have c44b2 : (9223372036854775807 < (x4_3 ++ (⟨#[32]⟩ : ByteArray)).size + t156.size) = False := eq_false (Nat.not_lt.2 c44)
                  have c44b3 : (9223372036854775807 < x4_3.size + 1 + t156.size) = False := eq_false (by have h_ := c44; simp only [ByteArray.size_append, show (⟨#[32]⟩ : ByteArray).size = 1 from rfl] at h_; omega)
                  by_cases c45 : ((x4_3 ++ (⟨#[32]⟩ : ByteArray)) ++ t156).size + 1 ≤ 9223372036854775807
                  ·rw [if_pos c45] at H
                   have c45b0 := eq_true c45
                   have c45b1 : decide (((x4_3 ++ (⟨#[32]⟩ : ByteArray)) ++ t156).size + 1 ≤ 9223372036854775807) = true := decide_eq_true c45
                   try have c45b2 : (9223372036854775807 < ((x4_3 ++ (⟨#[32]⟩ : ByteArray)) ++ t156).size + 1) = False := eq_false (Nat.not_lt.2 c45)
                   have c45b3 : (9223372036854775807 < x4_3.size + 1 + t156.size + 1) = False := eq_false (by have h_ := c45; simp only [ByteArray.size_append, show (⟨#[32]⟩ : ByteArray).size = 1 from rfl] at h_; omega)
                   replace H := Option.bind_eq_some_iff.mp H
                   obtain ⟨t157, A460, H⟩ := H
                   replace H : (if (((x4_3 ++ (⟨#[32]⟩ : ByteArray)) ++ t156) ++ (⟨#[58]⟩ : ByteArray)).size + t157.size ≤ 9223372036854775807 then (if (rd_T51 ((rd_T49 l0_3 x7_2).f1) x8_3).f2 = true then (if ((((x4_3 ++ (⟨#[32]⟩ : ByteArray)) ++ t156) ++ (⟨#[58]⟩ : ByteArray)) ++ t157).size + 1 ≤ 9223372036854775807 then (spec_TextOf.l2 k3 (((((x4_3 ++ (⟨#[32]⟩ : ByteArray)) ++ t156) ++ (⟨#[58]⟩ : ByteArray)) ++ t157) ++ (⟨#[45]⟩ : ByteArray)) x7_2 (wrap64 (x8_3 + 1)) a0_0 a0_1 l0_2 l0_3) else (none)) else (if ((((x4_3 ++ (⟨#[32]⟩ : ByteArray)) ++ t156) ++ (⟨#[58]⟩ : ByteArray)) ++ t157).size + 1 ≤ 9223372036854775807 then ((spec_l7Digits.f k3 ((rd_T51 ((rd_T49 l0_3 x7_2).f1) x8_3).f3)).bind fun t158 => (if (((((x4_3 ++ (⟨#[32]⟩ : ByteArray)) ++ t156) ++ (⟨#[58]⟩ : ByteArray)) ++ t157) ++ (⟨#[61]⟩ : ByteArray)).size + t158.size ≤ 9223372036854775807 then (spec_TextOf.l2 k3 ((((((x4_3 ++ (⟨#[32]⟩ : ByteArray)) ++ t156) ++ (⟨#[58]⟩ : ByteArray)) ++ t157) ++ (⟨#[61]⟩ : ByteArray)) ++ t158) x7_2 (wrap64 (x8_3 + 1)) a0_0 a0_1 l0_2 l0_3) else (none))) else (none))) else (none)) = some (r1, r2) := H
                   have A46 := Aside0.mk A460
                   clear A460
                   by_cases c47 : (((x4_3 ++ (⟨#[32]⟩ : ByteArray)) ++ t156) ++ (⟨#[58]⟩ : ByteArray)).size + t157.size ≤ 9223372036854775807
                   ·rw [if_pos c47] at H
                    have c47b0 := eq_true c47
                    have c47b1 : decide ((((x4_3 ++ (⟨#[32]⟩ : ByteArray)) ++ t156) ++ (⟨#[58]⟩ : ByteArray)).size + t157.size ≤ 9223372036854775807) = true := decide_eq_true c47
                    try have c47b2 : (9223372036854775807 < (((x4_3 ++ (⟨#[32]⟩ : ByteArray)) ++ t156) ++ (⟨#[58]⟩ : ByteArray)).size + t157.size) = False := eq_false (Nat.not_lt.2 c47)
                    have c47b3 : (9223372036854775807 < x4_3.size + 1 + t156.size + 1 + t157.size) = False := eq_false (by have h_ := c47; simp only [ByteArray.size_append, show (⟨#[32]⟩ : ByteArray).size = 1 from rfl, show (⟨#[58]⟩ : ByteArray).size = 1 from rfl] at h_; omega)
                    obtain ⟨bq48, hbq48⟩ : ∃ b_ : Bool, b_ = ((rd_T51 ((rd_T49 l0_3 x7_2).f1) x8_3).f2) := ⟨_, rfl⟩
                    replace H : (if bq48 = true then (if ((((x4_3 ++ (⟨#[32]⟩ : ByteArray)) ++ t156) ++ (⟨#[58]⟩ : ByteArray)) ++ t157).size + 1 ≤ 9223372036854775807 then (spec_TextOf.l2 k3 (((((x4_3 ++ (⟨#[32]⟩ : ByteArray)) ++ t156) ++ (⟨#[58]⟩ : ByteArray)) ++ t157) ++ (⟨#[45]⟩ : ByteArray)) x7_2 (wrap64 (x8_3 + 1)) a0_0 a0_1 l0_2 l0_3) else (none)) else (if ((((x4_3 ++ (⟨#[32]⟩ : ByteArray)) ++ t156) ++ (⟨#[58]⟩ : ByteArray)) ++ t157).size + 1 ≤ 9223372036854775807 then ((spec_l7Digits.f k3 ((rd_T51 ((rd_T49 l0_3 x7_2).f1) x8_3).f3)).bind fun t158 => (if (((((x4_3 ++ (⟨#[32]⟩ : ByteArray)) ++ t156) ++ (⟨#[58]⟩ : ByteArray)) ++ t157) ++ (⟨#[61]⟩ : ByteArray)).size + t158.size ≤ 9223372036854775807 then (spec_TextOf.l2 k3 ((((((x4_3 ++ (⟨#[32]⟩ : ByteArray)) ++ t156) ++ (⟨#[58]⟩ : ByteArray)) ++ t157) ++ (⟨#[61]⟩ : ByteArray)) ++ t158) x7_2 (wrap64 (x8_3 + 1)) a0_0 a0_1 l0_2 l0_3) else (none))) else (none))) = some (r1, r2) := by rw [← hbq48] at H; exact H
                    have Nbq48 := Aside0.mk hbq48
                    clear hbq48
                    by_cases c49 : bq48 = true
                    ·subst c49
                     have H1 : (if ((((x4_3 ++ (⟨#[32]⟩ : ByteArray)) ++ t156) ++ (⟨#[58]⟩ : ByteArray)) ++ t157).size + 1 ≤ 9223372036854775807 then (spec_TextOf.l2 k3 (((((x4_3 ++ (⟨#[32]⟩ : ByteArray)) ++ t156) ++ (⟨#[58]⟩ : ByteArray)) ++ t157) ++ (⟨#[45]⟩ : ByteArray)) x7_2 (wrap64 (x8_3 + 1)) a0_0 a0_1 l0_2 l0_3) else (none)) = some (r1, r2) := by rw [if_pos rfl] at H; exact H
                     clear H
                     have H := H1
                     clear H1
                     by_cases c50 : ((((x4_3 ++ (⟨#[32]⟩ : ByteArray)) ++ t156) ++ (⟨#[58]⟩ : ByteArray)) ++ t157).size + 1 ≤ 9223372036854775807
                     ·rw [if_pos c50] at H
                      have c50b0 := eq_true c50
                      have c50b1 : decide (((((x4_3 ++ (⟨#[32]⟩ : ByteArray)) ++ t156) ++ (⟨#[58]⟩ : ByteArray)) ++ t157).size + 1 ≤ 9223372036854775807) = true := decide_eq_true c50
                      try have c50b2 : (9223372036854775807 < ((((x4_3 ++ (⟨#[32]⟩ : ByteArray)) ++ t156) ++ (⟨#[58]⟩ : ByteArray)) ++ t157).size + 1) = False := eq_false (Nat.not_lt.2 c50)
                      have c50b3 : (9223372036854775807 < x4_3.size + 1 + t156.size + 1 + t157.size + 1) = False := eq_false (by have h_ := c50; simp only [ByteArray.size_append, show (⟨#[32]⟩ : ByteArray).size = 1 from rfl, show (⟨#[58]⟩ : ByteArray).size = 1 from rfl] at h_; omega)
                      have H' := Aside0.mk H
                      clear H
                      have hnb51 := NB137_138.out
                      have hnc51 := NB138_137.out
                      obtain ⟨z52_0, z52_1, z52_2, z52_3, j52_0, j52_1, j52_2, j52_3⟩ := Go.Proofs.YtldlnafakfigeaaDoor.Lv.blks4 BK96.out
                      have p152 : 0 ≤ (x7_2 : Int) := of_decide_eq_true za
                      have q152 : x7_2 < (l0_3.length : Int) := of_decide_eq_true za
                      obtain ⟨ad152, A152_1, c152_1, e152, hx152_0, hx152_1, hl152_1, hi152_1⟩ := at_T49 HR0_3.out x7_2 p152 q152
                      obtain rfl : ad150 = ad152 := (by injection e152)
                      replace hx152_0 := zx HB hx152_0
                      replace hx152_1 := zx HB hx152_1
                      have HR152_1 := Aside0.mk hi152_1
                      have HC152_1 := Aside0.mk hl152_1
                      clear hi152_1 hl152_1
                      replace p152 := eq_true p152
                      replace q152 := eq_true q152
                      have p153 : 0 ≤ (x7_2 : Int) := of_decide_eq_true za
                      have q153 : x7_2 < (l0_3.length : Int) := of_decide_eq_true za
                      obtain ⟨ad153, A153_1, c153_1, e153, hx153_0, hx153_1, hl153_1, hi153_1⟩ := at_T49 HR0_3.out x7_2 p153 q153
                      obtain rfl : ad150 = ad153 := (by injection e153)
                      replace hx153_0 := zx HB hx153_0
                      replace hx153_1 := zx HB hx153_1
                      have HR153_1 := Aside0.mk hi153_1
                      have HC153_1 := Aside0.mk hl153_1
                      clear hi153_1 hl153_1
                      replace p153 := eq_true p153
                      replace q153 := eq_true q153
                      have ea_ := Option.some.inj (hx152_1.symm.trans hx153_1)
                      injection ea_ with ea_ en_ ec_
                      subst ea_
                      subst ec_
                      clear en_
                      have p154 : 0 ≤ (x8_3 : Int) := of_decide_eq_true za
                      have q154 : x8_3 < (((rd_T49 l0_3 x7_2).f1).length : Int) := of_decide_eq_true za
                      obtain ⟨ad154, e154, hx154_0, hx154_1, hx154_2, hx154_3⟩ := at_T51 HR153_1.out x8_3 p154 q154
                      (try rw [← Nbq48.out] at hx154_2)
                      cases e154
                      replace hx154_0 := zx HB hx154_0
                      replace hx154_1 := zx HB hx154_1
                      replace hx154_2 := zx HB hx154_2
                      replace hx154_3 := zx HB hx154_3
                      replace p154 := eq_true p154
                      replace q154 := eq_true q154
                      try go_wp2_with (first | ((with_reducible refine gate_dst (N := 9) rfl ?_); refine zE 9 51 #[.int .i64 0, .int .i64 0, .bool false, .int .i64 0] ?_; intro gb98 hg w53 hbox hb; have BK98 := Aside0.mk hbox; have GW98 := Aside0.mk (zh hg : w.heap.size ≤ gb98); have NB137_155 := zl BK96 hg; have NB155_137 := zL BK96 hg; have NB138_155 := zl BK97 hg; have NB155_138 := zL BK97 hg; have GE98 := GW98; replace BK96 := zw BK96 hb; replace BK97 := zw BK97 hb; replace HB := Aside0.mk (below_step zb hb); clear hb hbox hg; have hnb54 := NB155_137.out; have hnc54 := NB137_155.out; have hnb55 := NB155_138.out; have hnc55 := NB138_155.out; obtain ⟨z56_0, z56_1, z56_2, z56_3, j56_0, j56_1, j56_2, j56_3⟩ := Go.Proofs.YtldlnafakfigeaaDoor.Lv.blks4 BK98.out))
                      have n0_ : Aside0 (((((w53.setCell ⟨gb98, 0, none⟩ (.int .i64 ((rd_T51 ((rd_T49 l0_3 x7_2).f1) x8_3).f0))).setCell ⟨gb98, 1, none⟩ (.int .i64 ((rd_T51 ((rd_T49 l0_3 x7_2).f1) x8_3).f1))).setCell ⟨gb98, 2, none⟩ (.bool true)).setCell ⟨gb98, 3, none⟩ (.int .i64 ((rd_T51 ((rd_T49 l0_3 x7_2).f1) x8_3).f3))).heap[gb96]? = some (.cells #[.int .i64 a0_0, .int .i64 a0_1, .slice A0_2 l0_2.length c0_2, .slice (some ad150) l0_3.length c0_3] 33 (0, 0))) := ⟨by refine zQ ?_; refine blk_far ?_ NB137_155.out _; refine zQ ?_; refine blk_far ?_ NB137_155.out _; refine zQ ?_; refine blk_far ?_ NB137_155.out _; refine zQ ?_; refine blk_far ?_ NB137_155.out _; refine zQ ?_; exact BK96.out⟩
                      have n1_ : Aside0 (((((w53.setCell ⟨gb98, 0, none⟩ (.int .i64 ((rd_T51 ((rd_T49 l0_3 x7_2).f1) x8_3).f0))).setCell ⟨gb98, 1, none⟩ (.int .i64 ((rd_T51 ((rd_T49 l0_3 x7_2).f1) x8_3).f1))).setCell ⟨gb98, 2, none⟩ (.bool true)).setCell ⟨gb98, 3, none⟩ (.int .i64 ((rd_T51 ((rd_T49 l0_3 x7_2).f1) x8_3).f3))).heap[gb97]? = some (.cells #[.int .i64 0, .string (⟨#[]⟩ : ByteArray)] 28 (0, 0))) := ⟨by refine zQ ?_; refine blk_far ?_ NB138_155.out _; refine zQ ?_; refine blk_far ?_ NB138_155.out _; refine zQ ?_; refine blk_far ?_ NB138_155.out _; refine zQ ?_; refine blk_far ?_ NB138_155.out _; refine zQ ?_; exact BK97.out⟩
                      have n2_ : Aside0 (((((w53.setCell ⟨gb98, 0, none⟩ (.int .i64 ((rd_T51 ((rd_T49 l0_3 x7_2).f1) x8_3).f0))).setCell ⟨gb98, 1, none⟩ (.int .i64 ((rd_T51 ((rd_T49 l0_3 x7_2).f1) x8_3).f1))).setCell ⟨gb98, 2, none⟩ (.bool true)).setCell ⟨gb98, 3, none⟩ (.int .i64 ((rd_T51 ((rd_T49 l0_3 x7_2).f1) x8_3).f3))).heap[gb98]? = some (.cells #[.int .i64 ((rd_T51 ((rd_T49 l0_3 x7_2).f1) x8_3).f0), .int .i64 ((rd_T51 ((rd_T49 l0_3 x7_2).f1) x8_3).f1), .bool true, .int .i64 ((rd_T51 ((rd_T49 l0_3 x7_2).f1) x8_3).f3)] 51 (0, 0))) := ⟨by refine zQ ?_; refine blk_put (cs := #[.int .i64 ((rd_T51 ((rd_T49 l0_3 x7_2).f1) x8_3).f0), .int .i64 ((rd_T51 ((rd_T49 l0_3 x7_2).f1) x8_3).f1), .bool true, .int .i64 0]) ?_ 3 _ rfl; refine zQ ?_; refine blk_put (cs := #[.int .i64 ((rd_T51 ((rd_T49 l0_3 x7_2).f1) x8_3).f0), .int .i64 ((rd_T51 ((rd_T49 l0_3 x7_2).f1) x8_3).f1), .bool false, .int .i64 0]) ?_ 2 _ rfl; refine zQ ?_; refine blk_put (cs := #[.int .i64 ((rd_T51 ((rd_T49 l0_3 x7_2).f1) x8_3).f0), .int .i64 0, .bool false, .int .i64 0]) ?_ 1 _ rfl; refine zQ ?_; refine blk_put (cs := #[.int .i64 0, .int .i64 0, .bool false, .int .i64 0]) ?_ 0 _ rfl; refine zQ ?_; exact BK98.out⟩
                      have n3_ : Aside0 (Below w.heap.size w ((((w53.setCell ⟨gb98, 0, none⟩ (.int .i64 ((rd_T51 ((rd_T49 l0_3 x7_2).f1) x8_3).f0))).setCell ⟨gb98, 1, none⟩ (.int .i64 ((rd_T51 ((rd_T49 l0_3 x7_2).f1) x8_3).f1))).setCell ⟨gb98, 2, none⟩ (.bool true)).setCell ⟨gb98, 3, none⟩ (.int .i64 ((rd_T51 ((rd_T49 l0_3 x7_2).f1) x8_3).f3)))) := ⟨zb⟩
                      (try clear BK96)
                      (try clear BK97)
                      (try clear BK98)
                      (try clear HB)
                      generalize ((((w53.setCell ⟨gb98, 0, none⟩ (.int .i64 ((rd_T51 ((rd_T49 l0_3 x7_2).f1) x8_3).f0))).setCell ⟨gb98, 1, none⟩ (.int .i64 ((rd_T51 ((rd_T49 l0_3 x7_2).f1) x8_3).f1))).setCell ⟨gb98, 2, none⟩ (.bool true)).setCell ⟨gb98, 3, none⟩ (.int .i64 ((rd_T51 ((rd_T49 l0_3 x7_2).f1) x8_3).f3))) = w57 at n0_ n1_ n2_ n3_ ⊢
                      have BK96 := n0_
                      have BK97 := n1_
                      have BK98 := n2_
                      have HB := n3_
                      clear n0_ n1_ n2_ n3_
                      replace BK96 := Aside0.mk (blk_drew BK96.out)
                      replace BK97 := Aside0.mk (blk_drew BK97.out)
                      replace BK98 := Aside0.mk (blk_drew BK98.out)
                      replace HB := Aside0.mk (below_drew1 HB.out)
                      refine start_ (n := 12) (S := fun w' => w'.cell? ⟨gb98, 0, none⟩ = some (.int .i64 ((rd_T51 ((rd_T49 l0_3 x7_2).f1) x8_3).f0)) ∧ w'.cell? ⟨gb98, 1, none⟩ = some (.int .i64 ((rd_T51 ((rd_T49 l0_3 x7_2).f1) x8_3).f1)) ∧ w'.cell? ⟨gb98, 2, none⟩ = some (.bool true) ∧ w'.cell? ⟨gb98, 3, none⟩ = some (.int .i64 ((rd_T51 ((rd_T49 l0_3 x7_2).f1) x8_3).f3))) (ds := []) #[Z, Z, Z, Z, Z, Z, Z, Z, Z, Z, Z, Z] (by kernel_rfl) rfl rfl ⟨(blk_cell BK98.out 0).trans rfl, (blk_cell BK98.out 1).trans rfl, (blk_cell BK98.out 2).trans rfl, (blk_cell BK98.out 3).trans rfl⟩ (fun hHeld => ?_); refine with_tabW spec_TextOf.tab18 spec_TextOf.bits18 (fun HT_ HW_ => ?_)
                      generalize w57.drew = w58 at BK96 BK97 BK98 HB hHeld ⊢
                      refine zp 0 85 ?_; refine zp 1 86 ?_; refine zp 2 87 ?_; refine zp 7 92 ?_; refine zt 3 88 ?_; refine zt 8 93 ?_
                      refine one_ (i := 4) (N := some 89) #[Y, Y, Y, Y, Y, Z, Z, Y, Y, Z, Z, Z] rfl rfl (one_of HT_.out (by kernel_rfl)) (by decide) (fun K hK => ?_)
                      refine goes_ Tryd.func14 (by kernel_rfl) rfl #[.int .i64 ((rd_T51 ((rd_T49 l0_3 x7_2).f1) x8_3).f0)] (by rfl) rfl rfl zm ?_
                      with_reducible refine (spec_l7Digits.calls k3 ((rd_T51 ((rd_T49 l0_3 x7_2).f1) x8_3).f0) t156 _ A43.out).mono ?_
                      rintro e w59 ⟨rfl, hb⟩
                      refine ⟨_, rfl, ?_⟩
                      replace BK96 := zw BK96 hb
                      replace BK97 := zw BK97 hb
                      replace BK98 := zw BK98 hb
                      replace HB := Aside0.mk (below_step zb hb)
                      (try clear hb)
                      (try clear hb2)
                      (try clear hk)
                      (try clear hi)
                      refine hK.out _ _ ⟨(blk_cell BK98.out 0).trans rfl, (blk_cell BK98.out 1).trans rfl, (blk_cell BK98.out 2).trans rfl, (blk_cell BK98.out 3).trans rfl⟩ (fun hHeld => ?_)
                      clear hK K
                      refine norm_ (a' := ?_) ?_ ?_
                      rotate_left
                      ·show Act.put _ (some 89) _ = _
                       simp only [Act.put, List.setIfInBounds_toArray, List.set_cons_zero, List.set_cons_succ, i64_w, i32_w]
                       rfl
                      refine zp 5 90 ?_; refine zp 6 91 ?_
                      refine one_ (i := 9) (N := some 94) #[Y, Y, Y, Y, Y, Y, Y, Y, Y, Y, Z, Z] rfl rfl (one_of HT_.out (by kernel_rfl)) (by decide) (fun K hK => ?_)
                      refine goes_ Tryd.func14 (by kernel_rfl) rfl #[.int .i64 ((rd_T51 ((rd_T49 l0_3 x7_2).f1) x8_3).f1)] (by rfl) rfl rfl zm ?_
                      with_reducible refine (spec_l7Digits.calls k3 ((rd_T51 ((rd_T49 l0_3 x7_2).f1) x8_3).f1) t157 _ A46.out).mono ?_
                      rintro e w60 ⟨rfl, hb⟩
                      refine ⟨_, rfl, ?_⟩
                      replace BK96 := zw BK96 hb
                      replace BK97 := zw BK97 hb
                      replace BK98 := zw BK98 hb
                      replace HB := Aside0.mk (below_step zb hb)
                      (try clear hb)
                      (try clear hb2)
                      (try clear hk)
                      (try clear hi)
                      refine hK.out _ _ ⟨(blk_cell BK98.out 0).trans rfl, (blk_cell BK98.out 1).trans rfl, (blk_cell BK98.out 2).trans rfl, (blk_cell BK98.out 3).trans rfl⟩ (fun hHeld => ?_)
                      clear hK K
                      refine norm_ (a' := ?_) ?_ ?_
                      rotate_left
                      ·show Act.put _ (some 94) _ = _
                       simp only [Act.put, List.setIfInBounds_toArray, List.set_cons_zero, List.set_cons_succ, i64_w, i32_w]
                       rfl
                      refine zp 10 95 ?_; refine zp 11 4 ?_
                      refine done_ (done_of HT_.out (by kernel_rfl)) ?_
                      obtain ⟨z61_0, z61_1, z61_2, z61_3, j61_0, j61_1, j61_2, j61_3⟩ := Go.Proofs.YtldlnafakfigeaaDoor.Lv.blks4 BK98.out
                      try go_wp2
                      go_roundg k3
                      case measure => have := HK1.out; have := HK2.out; have := HK3.out; omega
                      case rel => exact ⟨(((((x4_3 ++ (⟨#[32]⟩ : ByteArray)) ++ t156) ++ (⟨#[58]⟩ : ByteArray)) ++ t157) ++ (⟨#[45]⟩ : ByteArray)), (wrap64 (x8_3 + 1)), zs, zs, H', ⟨by have := HK1.out; have := HK2.out; have := HK3.out; omega⟩, ⟨zq BK96⟩, ⟨zq BK97⟩, ⟨zb⟩⟩
                     rw [if_neg c50] at H
                     exact absurd H (by simp)
                    replace c49 := Bool.eq_false_iff.mpr c49
                    subst c49
                    have H1 : (if ((((x4_3 ++ (⟨#[32]⟩ : ByteArray)) ++ t156) ++ (⟨#[58]⟩ : ByteArray)) ++ t157).size + 1 ≤ 9223372036854775807 then ((spec_l7Digits.f k3 ((rd_T51 ((rd_T49 l0_3 x7_2).f1) x8_3).f3)).bind fun t158 => (if (((((x4_3 ++ (⟨#[32]⟩ : ByteArray)) ++ t156) ++ (⟨#[58]⟩ : ByteArray)) ++ t157) ++ (⟨#[61]⟩ : ByteArray)).size + t158.size ≤ 9223372036854775807 then (spec_TextOf.l2 k3 ((((((x4_3 ++ (⟨#[32]⟩ : ByteArray)) ++ t156) ++ (⟨#[58]⟩ : ByteArray)) ++ t157) ++ (⟨#[61]⟩ : ByteArray)) ++ t158) x7_2 (wrap64 (x8_3 + 1)) a0_0 a0_1 l0_2 l0_3) else (none))) else (none)) = some (r1, r2) := by rw [if_neg (show ¬ (false = true) by decide)] at H; exact H
                    clear H
                    have H := H1
                    clear H1
                    by_cases c62 : ((((x4_3 ++ (⟨#[32]⟩ : ByteArray)) ++ t156) ++ (⟨#[58]⟩ : ByteArray)) ++ t157).size + 1 ≤ 9223372036854775807
                    ·rw [if_pos c62] at H
                     have c62b0 := eq_true c62
                     have c62b1 : decide (((((x4_3 ++ (⟨#[32]⟩ : ByteArray)) ++ t156) ++ (⟨#[58]⟩ : ByteArray)) ++ t157).size + 1 ≤ 9223372036854775807) = true := decide_eq_true c62
                     try have c62b2 : (9223372036854775807 < ((((x4_3 ++ (⟨#[32]⟩ : ByteArray)) ++ t156) ++ (⟨#[58]⟩ : ByteArray)) ++ t157).size + 1) = False := eq_false (Nat.not_lt.2 c62)
                     have c62b3 : (9223372036854775807 < x4_3.size + 1 + t156.size + 1 + t157.size + 1) = False := eq_false (by have h_ := c62; simp only [ByteArray.size_append, show (⟨#[32]⟩ : ByteArray).size = 1 from rfl, show (⟨#[58]⟩ : ByteArray).size = 1 from rfl] at h_; omega)
                     replace H := Option.bind_eq_some_iff.mp H
                     obtain ⟨t158, A630, H⟩ := H
                     replace H : (if (((((x4_3 ++ (⟨#[32]⟩ : ByteArray)) ++ t156) ++ (⟨#[58]⟩ : ByteArray)) ++ t157) ++ (⟨#[61]⟩ : ByteArray)).size + t158.size ≤ 9223372036854775807 then (spec_TextOf.l2 k3 ((((((x4_3 ++ (⟨#[32]⟩ : ByteArray)) ++ t156) ++ (⟨#[58]⟩ : ByteArray)) ++ t157) ++ (⟨#[61]⟩ : ByteArray)) ++ t158) x7_2 (wrap64 (x8_3 + 1)) a0_0 a0_1 l0_2 l0_3) else (none)) = some (r1, r2) := H
                     have A63 := Aside0.mk A630
                     clear A630
                     by_cases c64 : (((((x4_3 ++ (⟨#[32]⟩ : ByteArray)) ++ t156) ++ (⟨#[58]⟩ : ByteArray)) ++ t157) ++ (⟨#[61]⟩ : ByteArray)).size + t158.size ≤ 9223372036854775807
                     ·rw [if_pos c64] at H
                      have c64b0 := eq_true c64
                      have c64b1 : decide ((((((x4_3 ++ (⟨#[32]⟩ : ByteArray)) ++ t156) ++ (⟨#[58]⟩ : ByteArray)) ++ t157) ++ (⟨#[61]⟩ : ByteArray)).size + t158.size ≤ 9223372036854775807) = true := decide_eq_true c64
                      try have c64b2 : (9223372036854775807 < (((((x4_3 ++ (⟨#[32]⟩ : ByteArray)) ++ t156) ++ (⟨#[58]⟩ : ByteArray)) ++ t157) ++ (⟨#[61]⟩ : ByteArray)).size + t158.size) = False := eq_false (Nat.not_lt.2 c64)
                      have c64b3 : (9223372036854775807 < x4_3.size + 1 + t156.size + 1 + t157.size + 1 + t158.size) = False := eq_false (by have h_ := c64; simp only [ByteArray.size_append, show (⟨#[32]⟩ : ByteArray).size = 1 from rfl, show (⟨#[58]⟩ : ByteArray).size = 1 from rfl, show (⟨#[61]⟩ : ByteArray).size = 1 from rfl] at h_; omega)
                      have H' := Aside0.mk H
                      clear H
                      have hnb65 := NB137_138.out
                      have hnc65 := NB138_137.out
                      obtain ⟨z66_0, z66_1, z66_2, z66_3, j66_0, j66_1, j66_2, j66_3⟩ := Go.Proofs.YtldlnafakfigeaaDoor.Lv.blks4 BK96.out
                      have p152 : 0 ≤ (x7_2 : Int) := of_decide_eq_true za
                      have q152 : x7_2 < (l0_3.length : Int) := of_decide_eq_true za
                      obtain ⟨ad152, A152_1, c152_1, e152, hx152_0, hx152_1, hl152_1, hi152_1⟩ := at_T49 HR0_3.out x7_2 p152 q152
                      obtain rfl : ad150 = ad152 := (by injection e152)
                      replace hx152_0 := zx HB hx152_0
                      replace hx152_1 := zx HB hx152_1
                      have HR152_1 := Aside0.mk hi152_1
                      have HC152_1 := Aside0.mk hl152_1
                      clear hi152_1 hl152_1
                      replace p152 := eq_true p152
                      replace q152 := eq_true q152
                      have p153 : 0 ≤ (x7_2 : Int) := of_decide_eq_true za
                      have q153 : x7_2 < (l0_3.length : Int) := of_decide_eq_true za
                      obtain ⟨ad153, A153_1, c153_1, e153, hx153_0, hx153_1, hl153_1, hi153_1⟩ := at_T49 HR0_3.out x7_2 p153 q153
                      obtain rfl : ad150 = ad153 := (by injection e153)
                      replace hx153_0 := zx HB hx153_0
                      replace hx153_1 := zx HB hx153_1
                      have HR153_1 := Aside0.mk hi153_1
                      have HC153_1 := Aside0.mk hl153_1
                      clear hi153_1 hl153_1
                      replace p153 := eq_true p153
                      replace q153 := eq_true q153
                      have ea_ := Option.some.inj (hx152_1.symm.trans hx153_1)
                      injection ea_ with ea_ en_ ec_
                      subst ea_
                      subst ec_
                      clear en_
                      have p154 : 0 ≤ (x8_3 : Int) := of_decide_eq_true za
                      have q154 : x8_3 < (((rd_T49 l0_3 x7_2).f1).length : Int) := of_decide_eq_true za
                      obtain ⟨ad154, e154, hx154_0, hx154_1, hx154_2, hx154_3⟩ := at_T51 HR153_1.out x8_3 p154 q154
                      (try rw [← Nbq48.out] at hx154_2)
                      cases e154
                      replace hx154_0 := zx HB hx154_0
                      replace hx154_1 := zx HB hx154_1
                      replace hx154_2 := zx HB hx154_2
                      replace hx154_3 := zx HB hx154_3
                      replace p154 := eq_true p154
                      replace q154 := eq_true q154
                      try go_wp2_with (first | ((with_reducible refine gate_dst (N := 9) rfl ?_); refine zE 9 51 #[.int .i64 0, .int .i64 0, .bool false, .int .i64 0] ?_; intro gb98 hg w67 hbox hb; have BK98 := Aside0.mk hbox; have GW98 := Aside0.mk (zh hg : w.heap.size ≤ gb98); have NB137_155 := zl BK96 hg; have NB155_137 := zL BK96 hg; have NB138_155 := zl BK97 hg; have NB155_138 := zL BK97 hg; have GE98 := GW98; replace BK96 := zw BK96 hb; replace BK97 := zw BK97 hb; replace HB := Aside0.mk (below_step zb hb); clear hb hbox hg; have hnb68 := NB155_137.out; have hnc68 := NB137_155.out; have hnb69 := NB155_138.out; have hnc69 := NB138_155.out; obtain ⟨z70_0, z70_1, z70_2, z70_3, j70_0, j70_1, j70_2, j70_3⟩ := Go.Proofs.YtldlnafakfigeaaDoor.Lv.blks4 BK98.out))
                      have n0_ : Aside0 (((((w67.setCell ⟨gb98, 0, none⟩ (.int .i64 ((rd_T51 ((rd_T49 l0_3 x7_2).f1) x8_3).f0))).setCell ⟨gb98, 1, none⟩ (.int .i64 ((rd_T51 ((rd_T49 l0_3 x7_2).f1) x8_3).f1))).setCell ⟨gb98, 2, none⟩ (.bool false)).setCell ⟨gb98, 3, none⟩ (.int .i64 ((rd_T51 ((rd_T49 l0_3 x7_2).f1) x8_3).f3))).heap[gb96]? = some (.cells #[.int .i64 a0_0, .int .i64 a0_1, .slice A0_2 l0_2.length c0_2, .slice (some ad150) l0_3.length c0_3] 33 (0, 0))) := ⟨by refine zQ ?_; refine blk_far ?_ NB137_155.out _; refine zQ ?_; refine blk_far ?_ NB137_155.out _; refine zQ ?_; refine blk_far ?_ NB137_155.out _; refine zQ ?_; refine blk_far ?_ NB137_155.out _; refine zQ ?_; exact BK96.out⟩
                      have n1_ : Aside0 (((((w67.setCell ⟨gb98, 0, none⟩ (.int .i64 ((rd_T51 ((rd_T49 l0_3 x7_2).f1) x8_3).f0))).setCell ⟨gb98, 1, none⟩ (.int .i64 ((rd_T51 ((rd_T49 l0_3 x7_2).f1) x8_3).f1))).setCell ⟨gb98, 2, none⟩ (.bool false)).setCell ⟨gb98, 3, none⟩ (.int .i64 ((rd_T51 ((rd_T49 l0_3 x7_2).f1) x8_3).f3))).heap[gb97]? = some (.cells #[.int .i64 0, .string (⟨#[]⟩ : ByteArray)] 28 (0, 0))) := ⟨by refine zQ ?_; refine blk_far ?_ NB138_155.out _; refine zQ ?_; refine blk_far ?_ NB138_155.out _; refine zQ ?_; refine blk_far ?_ NB138_155.out _; refine zQ ?_; refine blk_far ?_ NB138_155.out _; refine zQ ?_; exact BK97.out⟩
                      have n2_ : Aside0 (((((w67.setCell ⟨gb98, 0, none⟩ (.int .i64 ((rd_T51 ((rd_T49 l0_3 x7_2).f1) x8_3).f0))).setCell ⟨gb98, 1, none⟩ (.int .i64 ((rd_T51 ((rd_T49 l0_3 x7_2).f1) x8_3).f1))).setCell ⟨gb98, 2, none⟩ (.bool false)).setCell ⟨gb98, 3, none⟩ (.int .i64 ((rd_T51 ((rd_T49 l0_3 x7_2).f1) x8_3).f3))).heap[gb98]? = some (.cells #[.int .i64 ((rd_T51 ((rd_T49 l0_3 x7_2).f1) x8_3).f0), .int .i64 ((rd_T51 ((rd_T49 l0_3 x7_2).f1) x8_3).f1), .bool false, .int .i64 ((rd_T51 ((rd_T49 l0_3 x7_2).f1) x8_3).f3)] 51 (0, 0))) := ⟨by refine zQ ?_; refine blk_put (cs := #[.int .i64 ((rd_T51 ((rd_T49 l0_3 x7_2).f1) x8_3).f0), .int .i64 ((rd_T51 ((rd_T49 l0_3 x7_2).f1) x8_3).f1), .bool false, .int .i64 0]) ?_ 3 _ rfl; refine zQ ?_; refine blk_put (cs := #[.int .i64 ((rd_T51 ((rd_T49 l0_3 x7_2).f1) x8_3).f0), .int .i64 ((rd_T51 ((rd_T49 l0_3 x7_2).f1) x8_3).f1), .bool false, .int .i64 0]) ?_ 2 _ rfl; refine zQ ?_; refine blk_put (cs := #[.int .i64 ((rd_T51 ((rd_T49 l0_3 x7_2).f1) x8_3).f0), .int .i64 0, .bool false, .int .i64 0]) ?_ 1 _ rfl; refine zQ ?_; refine blk_put (cs := #[.int .i64 0, .int .i64 0, .bool false, .int .i64 0]) ?_ 0 _ rfl; refine zQ ?_; exact BK98.out⟩
                      have n3_ : Aside0 (Below w.heap.size w ((((w67.setCell ⟨gb98, 0, none⟩ (.int .i64 ((rd_T51 ((rd_T49 l0_3 x7_2).f1) x8_3).f0))).setCell ⟨gb98, 1, none⟩ (.int .i64 ((rd_T51 ((rd_T49 l0_3 x7_2).f1) x8_3).f1))).setCell ⟨gb98, 2, none⟩ (.bool false)).setCell ⟨gb98, 3, none⟩ (.int .i64 ((rd_T51 ((rd_T49 l0_3 x7_2).f1) x8_3).f3)))) := ⟨zb⟩
                      (try clear BK96)
                      (try clear BK97)
                      (try clear BK98)
                      (try clear HB)
                      generalize ((((w67.setCell ⟨gb98, 0, none⟩ (.int .i64 ((rd_T51 ((rd_T49 l0_3 x7_2).f1) x8_3).f0))).setCell ⟨gb98, 1, none⟩ (.int .i64 ((rd_T51 ((rd_T49 l0_3 x7_2).f1) x8_3).f1))).setCell ⟨gb98, 2, none⟩ (.bool false)).setCell ⟨gb98, 3, none⟩ (.int .i64 ((rd_T51 ((rd_T49 l0_3 x7_2).f1) x8_3).f3))) = w71 at n0_ n1_ n2_ n3_ ⊢
                      have BK96 := n0_
                      have BK97 := n1_
                      have BK98 := n2_
                      have HB := n3_
                      clear n0_ n1_ n2_ n3_
                      replace BK96 := Aside0.mk (blk_drew BK96.out)
                      replace BK97 := Aside0.mk (blk_drew BK97.out)
                      replace BK98 := Aside0.mk (blk_drew BK98.out)
                      replace HB := Aside0.mk (below_drew1 HB.out)
                      refine start_ (n := 12) (S := fun w' => w'.cell? ⟨gb98, 0, none⟩ = some (.int .i64 ((rd_T51 ((rd_T49 l0_3 x7_2).f1) x8_3).f0)) ∧ w'.cell? ⟨gb98, 1, none⟩ = some (.int .i64 ((rd_T51 ((rd_T49 l0_3 x7_2).f1) x8_3).f1)) ∧ w'.cell? ⟨gb98, 2, none⟩ = some (.bool false) ∧ w'.cell? ⟨gb98, 3, none⟩ = some (.int .i64 ((rd_T51 ((rd_T49 l0_3 x7_2).f1) x8_3).f3))) (ds := []) #[Z, Z, Z, Z, Z, Z, Z, Z, Z, Z, Z, Z] (by kernel_rfl) rfl rfl ⟨(blk_cell BK98.out 0).trans rfl, (blk_cell BK98.out 1).trans rfl, (blk_cell BK98.out 2).trans rfl, (blk_cell BK98.out 3).trans rfl⟩ (fun hHeld => ?_); refine with_tabW spec_TextOf.tab18 spec_TextOf.bits18 (fun HT_ HW_ => ?_)
                      generalize w71.drew = w72 at BK96 BK97 BK98 HB hHeld ⊢
                      refine zp 0 85 ?_; refine zp 1 86 ?_; refine zp 2 87 ?_; refine zp 7 92 ?_; refine zt 3 88 ?_; refine zt 8 93 ?_
                      refine one_ (i := 4) (N := some 89) #[Y, Y, Y, Y, Y, Z, Z, Y, Y, Z, Z, Z] rfl rfl (one_of HT_.out (by kernel_rfl)) (by decide) (fun K hK => ?_)
                      refine goes_ Tryd.func14 (by kernel_rfl) rfl #[.int .i64 ((rd_T51 ((rd_T49 l0_3 x7_2).f1) x8_3).f0)] (by rfl) rfl rfl zm ?_
                      with_reducible refine (spec_l7Digits.calls k3 ((rd_T51 ((rd_T49 l0_3 x7_2).f1) x8_3).f0) t156 _ A43.out).mono ?_
                      rintro e w73 ⟨rfl, hb⟩
                      refine ⟨_, rfl, ?_⟩
                      replace BK96 := zw BK96 hb
                      replace BK97 := zw BK97 hb
                      replace BK98 := zw BK98 hb
                      replace HB := Aside0.mk (below_step zb hb)
                      (try clear hb)
                      (try clear hb2)
                      (try clear hk)
                      (try clear hi)
                      refine hK.out _ _ ⟨(blk_cell BK98.out 0).trans rfl, (blk_cell BK98.out 1).trans rfl, (blk_cell BK98.out 2).trans rfl, (blk_cell BK98.out 3).trans rfl⟩ (fun hHeld => ?_)
                      clear hK K
                      refine norm_ (a' := ?_) ?_ ?_
                      rotate_left
                      ·show Act.put _ (some 89) _ = _
                       simp only [Act.put, List.setIfInBounds_toArray, List.set_cons_zero, List.set_cons_succ, i64_w, i32_w]
                       rfl
                      refine zp 5 90 ?_; refine zp 6 91 ?_
                      refine one_ (i := 9) (N := some 94) #[Y, Y, Y, Y, Y, Y, Y, Y, Y, Y, Z, Z] rfl rfl (one_of HT_.out (by kernel_rfl)) (by decide) (fun K hK => ?_)
                      refine goes_ Tryd.func14 (by kernel_rfl) rfl #[.int .i64 ((rd_T51 ((rd_T49 l0_3 x7_2).f1) x8_3).f1)] (by rfl) rfl rfl zm ?_
                      with_reducible refine (spec_l7Digits.calls k3 ((rd_T51 ((rd_T49 l0_3 x7_2).f1) x8_3).f1) t157 _ A46.out).mono ?_
                      rintro e w74 ⟨rfl, hb⟩
                      refine ⟨_, rfl, ?_⟩
                      replace BK96 := zw BK96 hb
                      replace BK97 := zw BK97 hb
                      replace BK98 := zw BK98 hb
                      replace HB := Aside0.mk (below_step zb hb)
                      (try clear hb)
                      (try clear hb2)
                      (try clear hk)
                      (try clear hi)
                      refine hK.out _ _ ⟨(blk_cell BK98.out 0).trans rfl, (blk_cell BK98.out 1).trans rfl, (blk_cell BK98.out 2).trans rfl, (blk_cell BK98.out 3).trans rfl⟩ (fun hHeld => ?_)
                      clear hK K
                      refine norm_ (a' := ?_) ?_ ?_
                      rotate_left
                      ·show Act.put _ (some 94) _ = _
                       simp only [Act.put, List.setIfInBounds_toArray, List.set_cons_zero, List.set_cons_succ, i64_w, i32_w]
                       rfl
                      refine zp 10 95 ?_; refine zp 11 4 ?_
                      refine done_ (done_of HT_.out (by kernel_rfl)) ?_
                      obtain ⟨z75_0, z75_1, z75_2, z75_3, j75_0, j75_1, j75_2, j75_3⟩ := Go.Proofs.YtldlnafakfigeaaDoor.Lv.blks4 BK98.out
                      try go_wp2_with (first | ((with_reducible refine gate_callee (f := 14) rfl ?_); refine zj 104 Tryd.func14 #[.int .i64 ((rd_T51 ((rd_T49 l0_3 x7_2).f1) x8_3).f3)] ?_; (with_reducible refine (spec_l7Digits.calls k3 ((rd_T51 ((rd_T49 l0_3 x7_2).f1) x8_3).f3) t158 _ A63.out).mono ?_); rintro e w76 ⟨rfl, hb⟩; refine ⟨_, rfl, ?_⟩; replace BK96 := zw BK96 hb; replace BK97 := zw BK97 hb; replace BK98 := zw BK98 hb; replace HB := Aside0.mk (below_step zb hb); (try clear hb); (try clear hb2); (try clear hk); (try clear hi)))
                      go_roundg k3
                      case measure => have := HK1.out; have := HK2.out; have := HK3.out; omega
                      case rel => exact ⟨((((((x4_3 ++ (⟨#[32]⟩ : ByteArray)) ++ t156) ++ (⟨#[58]⟩ : ByteArray)) ++ t157) ++ (⟨#[61]⟩ : ByteArray)) ++ t158), (wrap64 (x8_3 + 1)), zs, zs, H', ⟨by have := HK1.out; have := HK2.out; have := HK3.out; omega⟩, ⟨zq BK96⟩, ⟨zq BK97⟩, ⟨zb⟩⟩
                     rw [if_neg c64] at H
                     exact absurd H (by simp)
                    rw [if_neg c62] at H
                    exact absurd H (by simp)
                   rw [if_neg c47] at H
                   exact absurd H (by simp)
                  rw [if_neg c45] at H
                  exact absurd H (by simp)
                 rw [if_neg c44] at H
                 exact absurd H (by simp)
                rw [if_neg c42] at H
                exact absurd H (by simp)
               rw [if_neg c41] at H
               exact absurd H (by simp)
              rw [if_neg c40] at H
              have c40b0 : decide (x8_3 < (((rd_T49 l0_3 x7_2).f1).length : Int)) = false := decide_eq_false c40
              clear c40
              by_cases c77 : x4_3.size + 1 ≤ 9223372036854775807
              ·rw [if_pos c77] at H
               have c77b0 := eq_true c77
               have c77b1 : decide (x4_3.size + 1 ≤ 9223372036854775807) = true := decide_eq_true c77
               try have c77b2 : (9223372036854775807 < x4_3.size + 1) = False := eq_false (Nat.not_lt.2 c77)
               have H' := Aside0.mk H
               clear H
               have hnb78 := NB137_138.out
               have hnc78 := NB138_137.out
               obtain ⟨z79_0, z79_1, z79_2, z79_3, j79_0, j79_1, j79_2, j79_3⟩ := Go.Proofs.YtldlnafakfigeaaDoor.Lv.blks4 BK96.out
               have p152 : 0 ≤ (x7_2 : Int) := of_decide_eq_true za
               have q152 : x7_2 < (l0_3.length : Int) := of_decide_eq_true za
               obtain ⟨ad152, A152_1, c152_1, e152, hx152_0, hx152_1, hl152_1, hi152_1⟩ := at_T49 HR0_3.out x7_2 p152 q152
               obtain rfl : ad150 = ad152 := (by injection e152)
               replace hx152_0 := zx HB hx152_0
               replace hx152_1 := zx HB hx152_1
               have HR152_1 := Aside0.mk hi152_1
               have HC152_1 := Aside0.mk hl152_1
               clear hi152_1 hl152_1
               replace p152 := eq_true p152
               replace q152 := eq_true q152
               go_wp2
               go_roundg k3
               case measure => have := HK1.out; have := HK2.out; have := HK3.out; omega
               case rel => exact ⟨(x4_3 ++ (⟨#[10]⟩ : ByteArray)), (wrap64 (x7_2 + 1)), zs, zs, H', ⟨by have := HK1.out; have := HK2.out; have := HK3.out; omega⟩, ⟨zq BK96⟩, ⟨zq BK97⟩, ⟨zb⟩⟩
              rw [if_neg c77] at H
              exact absurd H (by simp)
             rw [if_neg c39] at H
             exact absurd H (by simp)
            rw [if_neg c38] at H
            exact absurd H (by simp)
         rw [if_neg c34] at H
         exact absurd H (by simp)
        rw [if_neg c32] at H
        exact absurd H (by simp)
       rw [if_neg c31] at H
       exact absurd H (by simp)
      rw [if_neg c30] at H
      have c30b0 : decide (x7_2 < (l0_3.length : Int)) = false := decide_eq_false c30
      clear c30
      simp only [Option.some.injEq, Prod.mk.injEq] at H
      obtain ⟨rfl, rfl⟩ := H
      have hnb80 := NB137_138.out
      have hnc80 := NB138_137.out
      obtain ⟨z81_0, z81_1, z81_2, z81_3, j81_0, j81_1, j81_2, j81_3⟩ := Go.Proofs.YtldlnafakfigeaaDoor.Lv.blks4 BK96.out
      obtain ⟨z82_0, z82_1, j82_0, j82_1⟩ := Go.Proofs.YtldlnafakfigeaaDoor.Lv.blks2 BK97.out
      go_wp2
      refine bodyPost_ret (results_cell_row rfl _ _ gb97 28 #[.int .i64 0, .string x4_2] (0, 0) _ rfl (by refine zQ ?_; refine blk_put (cs := #[.int .i64 0, .string (⟨#[]⟩ : ByteArray)]) ?_ 1 _ rfl; refine zQ ?_; refine blk_put (cs := #[.int .i64 0, .string (⟨#[]⟩ : ByteArray)]) ?_ 0 _ rfl; refine zQ ?_; exact BK97.out) Tryd.underlying28 rfl (by kernel_rfl)) rfl ?_
      exact ⟨ze, zb⟩
 rw [if_neg c3] at H
 have c3b0 : (t139 == 0) = false := beq_eq_false_iff_ne.mpr c3
 have c3b1 : (t139 != 0) = true := bne_iff_ne.mpr c3
 simp only [Option.some.injEq, Prod.mk.injEq] at H
 obtain ⟨rfl, rfl⟩ := H
 go_enter Tryd.func5, Tryd.ntmps5
 go_wp2_with (first | ((with_reducible refine gate_dst (N := 1) rfl ?_); refine zE 1 33 #[.int .i64 a0_0, .int .i64 a0_1, .slice A0_2 l0_2.length c0_2, .slice A0_3 l0_3.length c0_3] ?_; intro gb96 hg w83 hbox hb; have BK96 := Aside0.mk hbox; have GW96 := Aside0.mk (zh hg : w.heap.size ≤ gb96); have GE96 := GW96; replace HB := Aside0.mk (below_step zb hb); clear hb hbox hg) | ((with_reducible refine gate_dst (N := 2) rfl ?_); refine zE 2 28 #[.int .i64 0, .string (⟨#[]⟩ : ByteArray)] ?_; intro gb97 hg w84 hbox hb; have BK97 := Aside0.mk hbox; have GW97 := Aside0.mk (zh hg : w.heap.size ≤ gb97); have NB137_138 := zl BK96 hg; have NB138_137 := zL BK96 hg; have GE97 := GW97; replace BK96 := zw BK96 hb; replace HB := Aside0.mk (below_step zb hb); clear hb hbox hg) | ((with_reducible refine gate_callee (f := 12) rfl ?_); refine zj 10 Tryd.func12 #[.pointer (some ⟨gb96, 0, none⟩)] ?_; (with_reducible refine (spec_l6Fault.calls k a0_0 a0_1 _ _ l0_2 _ _ l0_3 t139 _ ?side1 ?side2 ?side3 ?side4 A2.out).mono ?_); (case side1 => exact zc (Kd.C_below HR0_2.out HB.out)); (case side2 => exact HC0_2.out); (case side3 => exact zc (Kd.C_below HR0_3.out HB.out)); (case side4 => exact HC0_3.out); rintro e w85 ⟨rfl, hb⟩; refine ⟨_, rfl, ?_⟩; replace BK96 := zw BK96 hb; replace BK97 := zw BK97 hb; replace HB := Aside0.mk (below_step zb hb); (try clear hb); (try clear hb2); (try clear hk); (try clear hi); have hnb86 := NB138_137.out; have hnc86 := NB137_138.out; obtain ⟨z87_0, z87_1, j87_0, j87_1⟩ := Go.Proofs.YtldlnafakfigeaaDoor.Lv.blks2 BK97.out))
 refine bodyPost_ret (results_cell_row rfl _ _ gb97 28 #[.int .i64 t139, .string (⟨#[]⟩ : ByteArray)] (0, 0) _ rfl (by refine zQ ?_; refine blk_put (cs := #[.int .i64 t139, .string (⟨#[]⟩ : ByteArray)]) ?_ 1 _ rfl; refine zQ ?_; refine blk_put (cs := #[.int .i64 0, .string (⟨#[]⟩ : ByteArray)]) ?_ 0 _ rfl; refine zQ ?_; exact BK97.out) Tryd.underlying28 rfl (by kernel_rfl)) rfl ?_
 exact ⟨ze, zb⟩
end Go.Proofs.YtldlnafakfigeaaDoor.P
