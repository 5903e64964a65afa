import Derived.Test.YtocdahbinombkaaGreatZz
import Derived.Test.YtocdahbinombkaaGreatP0
import Derived.Test.YtocdahbinombkaaGreatPCall0
import Derived.Test.YtocdahbinombkaaGreatPCall13
import Derived.Test.YtocdahbinombkaaGreatPCall5
import Derived.Test.YtocdahbinombkaaGreatPCall8
import Derived.Test.YtocdahbinombkaaGreatPCb0
import Derived.Test.YtocdahbinombkaaGreatPDm0
import Derived.Test.YtocdahbinombkaaGreatLb
import Derived.Test.YtocdahbinombkaaGreatLv
import Derived.IntWalk
import Derived.Shelf.Abstract
namespace Go.Proofs.YtocdahbinombkaaGreat.P
open Go.RowKit Go.Proofs.YtocdahbinombkaaGreatW.PrintWords Go.Proofs.YtocdahbinombkaaGreatW.PrintLast Go.Proofs.YtocdahbinombkaaGreatW.PrintMore
attribute [local go_sem] max2_int min2_int max_two min_two max_three min_three max_four min_four   -- for this text's walks alone
set_option linter.unusedVariables false
set_option linter.unusedSimpArgs false
-- PROOF --
theorem box2 {W : World} {b T : Nat} {x0 x1 : Value} (h : W.heap[b]? = some (.cells #[x0, x1] T (0, 0))) : W.cell? ⟨b, 0, none⟩ = some x0 ∧ W.cell? ⟨b, 1, none⟩ = some x1 ∧ b < W.heap.size ∧ b ≠ W.heap.size := ⟨(blk_cell h 0).trans rfl, (blk_cell h 1).trans rfl, blk_lt h, Nat.ne_of_lt (blk_lt h)⟩
theorem box4 {W : World} {b T : Nat} {x0 x1 x2 x3 : Value} (h : W.heap[b]? = some (.cells #[x0, x1, x2, x3] T (0, 0))) : W.cell? ⟨b, 0, none⟩ = some x0 ∧ W.cell? ⟨b, 1, none⟩ = some x1 ∧ W.cell? ⟨b, 2, none⟩ = some x2 ∧ W.cell? ⟨b, 3, none⟩ = some x3 ∧ b < W.heap.size ∧ b ≠ W.heap.size := ⟨(blk_cell h 0).trans rfl, (blk_cell h 1).trans rfl, (blk_cell h 2).trans rfl, (blk_cell h 3).trans rfl, blk_lt h, Nat.ne_of_lt (blk_lt h)⟩
theorem box6 {W : World} {b T : Nat} {x0 x1 x2 x3 x4 x5 : Value} (h : W.heap[b]? = some (.cells #[x0, x1, x2, x3, x4, x5] T (0, 0))) : W.cell? ⟨b, 0, none⟩ = some x0 ∧ W.cell? ⟨b, 1, none⟩ = some x1 ∧ W.cell? ⟨b, 2, none⟩ = some x2 ∧ W.cell? ⟨b, 3, none⟩ = some x3 ∧ W.cell? ⟨b, 4, none⟩ = some x4 ∧ W.cell? ⟨b, 5, none⟩ = some x5 ∧ b < W.heap.size ∧ b ≠ W.heap.size := ⟨(blk_cell h 0).trans rfl, (blk_cell h 1).trans rfl, (blk_cell h 2).trans rfl, (blk_cell h 3).trans rfl, (blk_cell h 4).trans rfl, (blk_cell h 5).trans rfl, blk_lt h, Nat.ne_of_lt (blk_lt h)⟩
set_option maxHeartbeats 16000000 in
set_option maxRecDepth 100000 in
theorem laws_FnExactBuildIndex.calls (k : Nat) (a0_0 : Int) (a0_1 : Int) (A0_2 : Option Addr) (c0_2 : Nat) (l0_2 : List (S73)) (A0_3 : Option Addr) (c0_3 : Nat) (l0_3 : List (S77)) (w : World) (hr0_2 : Kd.C k73 w A0_2 l0_2.length l0_2) (hc0_2 : l0_2.length ≤ c0_2) (hr0_3 : Kd.C k77 w A0_3 l0_3.length l0_3) (hc0_3 : l0_3.length ≤ c0_3) (h : laws_FnExactBuildIndex.f k a0_0 a0_1 l0_2 l0_3 = some true) :
 Calls Tryz.prog 4 #[.agg #[.int .i64 a0_0, .int .i64 a0_1, .slice A0_2 l0_2.length c0_2, .slice A0_3 l0_3.length c0_3]] w fun e w' => e = .returned (.bool true) ∧ Below w.heap.size w w' := by
 have hu25 := Tryz.underlying25
 have hu33 := Tryz.underlying33
 have hu41 := Tryz.underlying41
 have HR2 := Aside0.mk hr0_2
 have HC2 := Aside0.mk hc0_2
 have HR3 := Aside0.mk hr0_3
 have HC3 := Aside0.mk hc0_3
 clear hr0_2 hc0_2 hr0_3 hc0_3
 have HB := Aside0.mk (Below.refl w.heap.size w)
 unfold laws_FnExactBuildIndex.f at h
 obtain ⟨t, ht, h⟩ := Option.bind_eq_some_iff.mp h
 have HT := Aside0.mk ht
 clear ht
 by_cases ct : t < 0
 ·skip
  have ct0 : decide (t < 0) = true := decide_eq_true ct
  have h := Aside0.mk h
  go_enter Tryz.func4, Tryz.ntmps4
  go_wp2_with fail
  have hb : Below w.heap.size w (w.alloc (Obj.cells #[.int .i64 a0_0, .int .i64 a0_1, .slice A0_2 l0_2.length c0_2, .slice A0_3 l0_3.length c0_3] 25)) := below_alloc (Below.refl _ _) _
  have hbx := blk_new w (Obj.cells #[.int .i64 a0_0, .int .i64 a0_1, .slice A0_2 l0_2.length c0_2, .slice A0_3 l0_3.length c0_3] 25)
  have hsz : w.heap.size + 1 = (w.alloc (Obj.cells #[.int .i64 a0_0, .int .i64 a0_1, .slice A0_2 l0_2.length c0_2, .slice A0_3 l0_3.length c0_3] 25)).heap.size := by simp
  replace HB := Aside0.mk (below_alloc HB.out (Obj.cells #[.int .i64 a0_0, .int .i64 a0_1, .slice A0_2 l0_2.length c0_2, .slice A0_3 l0_3.length c0_3] 25))
  have hbz := Aside0.mk hb
  have hbxz := Aside0.mk hbx
  have hszz := Aside0.mk hsz
  clear hb hbx hsz
  generalize w.alloc (Obj.cells #[.int .i64 a0_0, .int .i64 a0_1, .slice A0_2 l0_2.length c0_2, .slice A0_3 l0_3.length c0_3] 25) = u1 at HB hbz hbxz hszz ⊢
  have X1 := hbxz
  have z1 := hszz
  clear hbz hbxz hszz
  refine (laws_szEngine.calls k a0_0 a0_1 _ c0_2 l0_2 _ c0_3 l0_3 1048576 t _ (Kd.C_below HR2.out HB.out) HC2.out (Kd.C_below HR3.out HB.out) HC3.out HT.out).mono ?_
  rintro e u2 ⟨rfl, hb⟩
  have hsz := hb.size
  replace HB := Aside0.mk (show Below w.heap.size w u2 from below_step HB.out hb)
  replace X1 := Aside0.mk (keepB hb X1.out)
  have z2 := Aside0.mk hsz
  clear hsz
  go_wp2_with fail
  go_ret
  exact ⟨rfl, HB.out⟩
 skip
 rw [if_neg ct] at h
 obtain ⟨⟨x0, x1, x2, x3⟩, hx, h⟩ := Option.bind_eq_some_iff.mp h
 have HX := Aside0.mk hx
 obtain ⟨⟨s1, s2⟩, hs, h⟩ := Option.bind_eq_some_iff.mp h
 have HS := Aside0.mk hs
 obtain ⟨⟨g1, g2⟩, hg, h⟩ := Option.bind_eq_some_iff.mp h
 have HG := Aside0.mk hg
 obtain ⟨q1, hq1, h⟩ := Option.bind_eq_some_iff.mp h
 cases q1 with
 | false => exact absurd h (by simp)
 | true =>
 rw [if_pos rfl] at h
 have HQ1 := Aside0.mk hq1
 obtain ⟨q2, hq2, h⟩ := Option.bind_eq_some_iff.mp h
 cases q2 with
 | false => exact absurd h (by simp)
 | true =>
 rw [if_pos rfl] at h
 have HQ2 := Aside0.mk hq2
 obtain ⟨⟨m1, m2, m3⟩, hm, h⟩ := Option.bind_eq_some_iff.mp h
 have HM := Aside0.mk hm
 by_cases cm : m1 < 0
 ·exact absurd h (by rw [if_pos cm]; decide)
 rw [if_neg cm] at h
 obtain ⟨⟨n1, n2⟩, hn, h⟩ := Option.bind_eq_some_iff.mp h
 have HN := Aside0.mk hn
 obtain ⟨q3, hq3, h⟩ := Option.bind_eq_some_iff.mp h
 have HQ3 := Aside0.mk hq3
 by_cases cq : q3 < 0
 ·exact absurd h (by rw [if_pos cq]; decide)
 rw [if_neg cq] at h
 have cn : q3 = n1 := Decidable.byContradiction fun c => by rw [if_neg c] at h; simp at h
 subst cn
 clear h hx hs hg hq1 hq2 hm hn hq3
 have h : True := trivial
 have cm0 : decide (m1 < 0) = false := decide_eq_false cm
 have cq0 : decide (q3 < 0) = false := decide_eq_false cq
 have ct0 : decide (t < 0) = false := decide_eq_false ct
 have h := Aside0.mk h
 go_enter Tryz.func4, Tryz.ntmps4
 go_wp2_with fail
 have hb : Below w.heap.size w (w.alloc (Obj.cells #[.int .i64 a0_0, .int .i64 a0_1, .slice A0_2 l0_2.length c0_2, .slice A0_3 l0_3.length c0_3] 25)) := below_alloc (Below.refl _ _) _
 have hbx := blk_new w (Obj.cells #[.int .i64 a0_0, .int .i64 a0_1, .slice A0_2 l0_2.length c0_2, .slice A0_3 l0_3.length c0_3] 25)
 have hsz : w.heap.size + 1 = (w.alloc (Obj.cells #[.int .i64 a0_0, .int .i64 a0_1, .slice A0_2 l0_2.length c0_2, .slice A0_3 l0_3.length c0_3] 25)).heap.size := by simp
 replace HB := Aside0.mk (below_alloc HB.out (Obj.cells #[.int .i64 a0_0, .int .i64 a0_1, .slice A0_2 l0_2.length c0_2, .slice A0_3 l0_3.length c0_3] 25))
 have hbz := Aside0.mk hb
 have hbxz := Aside0.mk hbx
 have hszz := Aside0.mk hsz
 clear hb hbx hsz
 generalize w.alloc (Obj.cells #[.int .i64 a0_0, .int .i64 a0_1, .slice A0_2 l0_2.length c0_2, .slice A0_3 l0_3.length c0_3] 25) = u1 at HB hbz hbxz hszz ⊢
 have X1 := hbxz
 have z1 := hszz
 clear hbz hbxz hszz
 refine (laws_szEngine.calls k a0_0 a0_1 _ c0_2 l0_2 _ c0_3 l0_3 1048576 t _ (Kd.C_below HR2.out HB.out) HC2.out (Kd.C_below HR3.out HB.out) HC3.out HT.out).mono ?_
 rintro e u2 ⟨rfl, hb⟩
 have hsz := hb.size
 replace HB := Aside0.mk (show Below w.heap.size w u2 from below_step HB.out hb)
 replace X1 := Aside0.mk (keepB hb X1.out)
 have z2 := Aside0.mk hsz
 clear hsz
 obtain ⟨cX1_0, cX1_1, cX1_2, cX1_3, lX1, nX1⟩ := box4 X1.out
 go_wp2_with fail
 clear cX1_0 cX1_1 cX1_2 cX1_3 lX1 nX1
 have hlo := Aside0.mk HB.out.size
 refine (laws_toEngine.calls k a0_0 a0_1 _ c0_2 l0_2 _ c0_3 l0_3 x0 x1 x2 x3 _ (Kd.C_below HR2.out HB.out) HC2.out (Kd.C_below HR3.out HB.out) HC3.out HX.out).mono ?_
 rintro e u3 ⟨vy2, vy3, rfl, hs2, hs3, hb⟩
 have hsz := hb.size
 replace HB := Aside0.mk (show Below w.heap.size w u3 from below_step HB.out hb)
 replace X1 := Aside0.mk (keepB hb X1.out)
 have z3 := Aside0.mk hsz
 clear hsz
 obtain ⟨Ay2, cy2, e2⟩ := Kd.S_slice hs2
 subst e2
 have Sy2 := Aside0.mk (show Kd.S k84 84 u3 u2.heap.size (fun _ => True) (.slice Ay2 x2.length cy2) x2 from hs2)
 clear hs2
 obtain ⟨Ay3, cy3, e3⟩ := Kd.S_slice hs3
 subst e3
 have Sy3 := Aside0.mk (show Kd.S k87 87 u3 u2.heap.size (fun _ => True) (.slice Ay3 x3.length cy3) x3 from hs3)
 clear hs3
 clear hlo
 obtain ⟨cX1_0, cX1_1, cX1_2, cX1_3, lX1, nX1⟩ := box4 X1.out
 go_wp2_with fail
 clear cX1_0 cX1_1 cX1_2 cX1_3 lX1 nX1
 refine (spec_BuildIndex.calls k x0 x1 _ cy2 x2 _ cy3 x3 s1 s2 _ (Kd.S_reads' Sy2.out).2.2 (Kd.S_reads' Sy2.out).2.1 (Kd.S_reads' Sy3.out).2.2 (Kd.S_reads' Sy3.out).2.1 HS.out).mono ?_
 rintro e u4 ⟨vw, rfl, hr, hb⟩
 have hsz := hb.size
 replace HB := Aside0.mk (show Below w.heap.size w u4 from below_step HB.out hb)
 replace X1 := Aside0.mk (keepB hb X1.out)
 replace Sy2 := Aside0.mk (Kd.S_below Sy2.out hb)
 replace Sy3 := Aside0.mk (Kd.S_below Sy3.out hb)
 have z4 := Aside0.mk hsz
 clear hsz
 obtain ⟨Aw, cw, e1⟩ := Kd.R_slice hr
 subst e1
 have Rw := Aside0.mk (show Kd.R k55 55 u4 u3.heap.size (fun k_ => u3.heap.size ≤ k_ ∧ k_ < u4.heap.size) (.slice Aw s2.length cw) s2 from Kd.R_mono (Kd.R_bound hr) (fun k_ h_ => ⟨h_.2.1, h_.2.2.1⟩))
 clear hr
 clear Sy2 Sy3
 obtain ⟨cX1_0, cX1_1, cX1_2, cX1_3, lX1, nX1⟩ := box4 X1.out
 go_wp2_with fail
 clear cX1_0 cX1_1 cX1_2 cX1_3 lX1 nX1
 have hb : Below u4.heap.size u4 (u4.alloc (Obj.cells #[.int .i64 s1, .slice Aw s2.length cw] 41)) := below_alloc (Below.refl _ _) _
 have hbx := blk_new u4 (Obj.cells #[.int .i64 s1, .slice Aw s2.length cw] 41)
 have hsz : u4.heap.size + 1 = (u4.alloc (Obj.cells #[.int .i64 s1, .slice Aw s2.length cw] 41)).heap.size := by simp
 replace HB := Aside0.mk (below_alloc HB.out (Obj.cells #[.int .i64 s1, .slice Aw s2.length cw] 41))
 replace X1 := Aside0.mk (keepB hb X1.out)
 replace Rw := Aside0.mk (Kd.R_below Rw.out hb)
 have hbz := Aside0.mk hb
 have hbxz := Aside0.mk hbx
 have hszz := Aside0.mk hsz
 clear hb hbx hsz
 generalize u4.alloc (Obj.cells #[.int .i64 s1, .slice Aw s2.length cw] 41) = u5 at HB hbz hbxz hszz X1 Rw ⊢
 have X5 := hbxz
 have z5 := hszz
 clear hbz hbxz hszz
 have hlo := Aside0.mk HB.out.size
 refine (laws_toEngine.calls k a0_0 a0_1 _ c0_2 l0_2 _ c0_3 l0_3 x0 x1 x2 x3 _ (Kd.C_below HR2.out HB.out) HC2.out (Kd.C_below HR3.out HB.out) HC3.out HX.out).mono ?_
 rintro e u6 ⟨vx2, vx3, rfl, hs2, hs3, hb⟩
 have hsz := hb.size
 replace HB := Aside0.mk (show Below w.heap.size w u6 from below_step HB.out hb)
 replace X1 := Aside0.mk (keepB hb X1.out)
 replace Rw := Aside0.mk (Kd.R_below Rw.out hb)
 replace X5 := Aside0.mk (keepB hb X5.out)
 have z6 := Aside0.mk hsz
 clear hsz
 obtain ⟨Ax2, cx2, e2⟩ := Kd.S_slice hs2
 subst e2
 have Sx2 := Aside0.mk (show Kd.S k84 84 u6 w.heap.size (fun k_ => (u5.heap.size ≤ k_ ∧ k_ < u6.heap.size) ∧ ∃ q_, q_ ∈ [84, 100] ∧ ∃ cells, u6.heap[k_]? = some (.cells cells q_ (0, 0))) (.slice Ax2 x2.length cx2) x2 from Kd.S_mono (Kd.S_lower (Kd.S_bound hs2) hlo.out) (fun k_ h_ => ⟨⟨h_.2.1, h_.2.2.1⟩, h_.2.2.2⟩))
 clear hs2
 obtain ⟨Ax3, cx3, e3⟩ := Kd.S_slice hs3
 subst e3
 have Sx3 := Aside0.mk (show Kd.S k87 87 u6 w.heap.size (fun k_ => (u5.heap.size ≤ k_ ∧ k_ < u6.heap.size) ∧ ∃ q_, q_ ∈ [87, 89] ∧ ∃ cells, u6.heap[k_]? = some (.cells cells q_ (0, 0))) (.slice Ax3 x3.length cx3) x3 from Kd.S_mono (Kd.S_lower (Kd.S_bound hs3) hlo.out) (fun k_ h_ => ⟨⟨h_.2.1, h_.2.2.1⟩, h_.2.2.2⟩))
 clear hs3
 clear hlo
 obtain ⟨cX1_0, cX1_1, cX1_2, cX1_3, lX1, nX1⟩ := box4 X1.out
 go_wp2_with fail
 clear cX1_0 cX1_1 cX1_2 cX1_3 lX1 nX1
 have hb : Below u6.heap.size u6 (u6.alloc (Obj.cells #[.int .i64 x0, .int .i64 x1, .slice Ax2 x2.length cx2, .slice Ax3 x3.length cx3] 33)) := below_alloc (Below.refl _ _) _
 have hbx := blk_new u6 (Obj.cells #[.int .i64 x0, .int .i64 x1, .slice Ax2 x2.length cx2, .slice Ax3 x3.length cx3] 33)
 have hsz : u6.heap.size + 1 = (u6.alloc (Obj.cells #[.int .i64 x0, .int .i64 x1, .slice Ax2 x2.length cx2, .slice Ax3 x3.length cx3] 33)).heap.size := by simp
 replace HB := Aside0.mk (below_alloc HB.out (Obj.cells #[.int .i64 x0, .int .i64 x1, .slice Ax2 x2.length cx2, .slice Ax3 x3.length cx3] 33))
 replace X1 := Aside0.mk (keepB hb X1.out)
 replace Rw := Aside0.mk (Kd.R_below Rw.out hb)
 replace X5 := Aside0.mk (keepB hb X5.out)
 replace Sx2 := Aside0.mk (Kd.S_below Sx2.out hb)
 replace Sx3 := Aside0.mk (Kd.S_below Sx3.out hb)
 have hbz := Aside0.mk hb
 have hbxz := Aside0.mk hbx
 have hszz := Aside0.mk hsz
 clear hb hbx hsz
 generalize u6.alloc (Obj.cells #[.int .i64 x0, .int .i64 x1, .slice Ax2 x2.length cx2, .slice Ax3 x3.length cx3] 33) = u7 at HB hbz hbxz hszz X1 Rw X5 Sx2 Sx3 ⊢
 have X7 := hbxz
 have z7 := hszz
 clear hbz hbxz hszz
 refine (impl_BuildIndex.calls k x0 x1 _ cx2 x2 _ cx3 x3 g1 g2 _ (Kd.S_reads' Sx2.out).2.2 (Kd.S_reads' Sx2.out).2.1 (Kd.S_reads' Sx3.out).2.2 (Kd.S_reads' Sx3.out).2.1 HG.out).mono ?_
 rintro e u8 ⟨vg, rfl, hr, hb⟩
 have hsz := hb.size
 replace HB := Aside0.mk (show Below w.heap.size w u8 from below_step HB.out hb)
 replace X1 := Aside0.mk (keepB hb X1.out)
 replace Rw := Aside0.mk (Kd.R_below Rw.out hb)
 replace X5 := Aside0.mk (keepB hb X5.out)
 replace Sx2 := Aside0.mk (Kd.S_below Sx2.out hb)
 replace Sx3 := Aside0.mk (Kd.S_below Sx3.out hb)
 replace X7 := Aside0.mk (keepB hb X7.out)
 have z8 := Aside0.mk hsz
 clear hsz
 obtain ⟨Ag, cg, e1⟩ := Kd.R_slice hr
 subst e1
 have Rg := Aside0.mk (show Kd.R k55 55 u8 u7.heap.size (fun k_ => u7.heap.size ≤ k_ ∧ k_ < u8.heap.size) (.slice Ag g2.length cg) g2 from Kd.R_mono (Kd.R_bound hr) (fun k_ h_ => ⟨h_.2.1, h_.2.2.1⟩))
 clear hr
 obtain ⟨cX1_0, cX1_1, cX1_2, cX1_3, lX1, nX1⟩ := box4 X1.out
 obtain ⟨cX5_0, cX5_1, lX5, nX5⟩ := box2 X5.out
 obtain ⟨cX7_0, cX7_1, cX7_2, cX7_3, lX7, nX7⟩ := box4 X7.out
 go_wp2_with fail
 clear cX1_0 cX1_1 cX1_2 cX1_3 lX1 nX1 cX5_0 cX5_1 lX5 nX5 cX7_0 cX7_1 cX7_2 cX7_3 lX7 nX7
 have hb : Below u8.heap.size u8 (u8.alloc (Obj.cells #[.int .i64 g1, .slice Ag g2.length cg] 41)) := below_alloc (Below.refl _ _) _
 have hbx := blk_new u8 (Obj.cells #[.int .i64 g1, .slice Ag g2.length cg] 41)
 have hsz : u8.heap.size + 1 = (u8.alloc (Obj.cells #[.int .i64 g1, .slice Ag g2.length cg] 41)).heap.size := by simp
 replace HB := Aside0.mk (below_alloc HB.out (Obj.cells #[.int .i64 g1, .slice Ag g2.length cg] 41))
 replace X1 := Aside0.mk (keepB hb X1.out)
 replace Rw := Aside0.mk (Kd.R_below Rw.out hb)
 replace X5 := Aside0.mk (keepB hb X5.out)
 replace Sx2 := Aside0.mk (Kd.S_below Sx2.out hb)
 replace Sx3 := Aside0.mk (Kd.S_below Sx3.out hb)
 replace X7 := Aside0.mk (keepB hb X7.out)
 replace Rg := Aside0.mk (Kd.R_below Rg.out hb)
 have hbz := Aside0.mk hb
 have hbxz := Aside0.mk hbx
 have hszz := Aside0.mk hsz
 clear hb hbx hsz
 generalize u8.alloc (Obj.cells #[.int .i64 g1, .slice Ag g2.length cg] 41) = u9 at HB hbz hbxz hszz X1 Rw X5 Sx2 Sx3 X7 Rg ⊢
 have X9 := hbxz
 have z9 := hszz
 clear hbz hbxz hszz
 refine (laws_eqPairsResult.calls k g1 _ cg g2 s1 _ cw s2 true _ (Kd.R_reads' Rg.out).2.2 (Kd.R_reads' Rg.out).2.1 (Kd.R_reads' Rw.out).2.2 (Kd.R_reads' Rw.out).2.1 HQ1.out).mono ?_
 rintro e u10 ⟨rfl, hb⟩
 have hsz := hb.size
 replace HB := Aside0.mk (show Below w.heap.size w u10 from below_step HB.out hb)
 replace X1 := Aside0.mk (keepB hb X1.out)
 replace Rw := Aside0.mk (Kd.R_below Rw.out hb)
 replace X5 := Aside0.mk (keepB hb X5.out)
 replace Sx2 := Aside0.mk (Kd.S_below Sx2.out hb)
 replace Sx3 := Aside0.mk (Kd.S_below Sx3.out hb)
 replace X7 := Aside0.mk (keepB hb X7.out)
 replace Rg := Aside0.mk (Kd.R_below Rg.out hb)
 replace X9 := Aside0.mk (keepB hb X9.out)
 have z10 := Aside0.mk hsz
 clear hsz
 obtain ⟨cX1_0, cX1_1, cX1_2, cX1_3, lX1, nX1⟩ := box4 X1.out
 obtain ⟨cX5_0, cX5_1, lX5, nX5⟩ := box2 X5.out
 obtain ⟨cX7_0, cX7_1, cX7_2, cX7_3, lX7, nX7⟩ := box4 X7.out
 obtain ⟨cX9_0, cX9_1, lX9, nX9⟩ := box2 X9.out
 go_wp2_with fail
 clear cX1_0 cX1_1 cX1_2 cX1_3 lX1 nX1 cX5_0 cX5_1 lX5 nX5 cX7_0 cX7_1 cX7_2 cX7_3 lX7 nX7 cX9_0 cX9_1 lX9 nX9
 refine start_ (n := 5) (S := fun W_ => W_.cell? ⟨u6.heap.size, 0, none⟩ = some (.int .i64 x0) ∧ W_.cell? ⟨u6.heap.size, 1, none⟩ = some (.int .i64 x1) ∧ W_.cell? ⟨u6.heap.size, 2, none⟩ = some (.slice Ax2 x2.length cx2) ∧ W_.cell? ⟨u6.heap.size, 3, none⟩ = some (.slice Ax3 x3.length cx3) ∧ W_.cell? ⟨w.heap.size, 0, none⟩ = some (.int .i64 a0_0) ∧ W_.cell? ⟨w.heap.size, 1, none⟩ = some (.int .i64 a0_1) ∧ W_.cell? ⟨w.heap.size, 2, none⟩ = some (.slice A0_2 l0_2.length c0_2) ∧ W_.cell? ⟨w.heap.size, 3, none⟩ = some (.slice A0_3 l0_3.length c0_3)) (ds := []) #[false, false, false, false, false] (by kernel_rfl) rfl rfl ⟨(blk_cell X7.out 0).trans rfl, (blk_cell X7.out 1).trans rfl, (blk_cell X7.out 2).trans rfl, (blk_cell X7.out 3).trans rfl, (blk_cell X1.out 0).trans rfl, (blk_cell X1.out 1).trans rfl, (blk_cell X1.out 2).trans rfl, (blk_cell X1.out 3).trans rfl⟩ (fun hHeld => ?_)
 refine zt 0 27 ?_; refine zt 1 28 ?_
 refine one_ (i := 2) (N := some 29) #[true, true, true, false, false] rfl rfl (by kernel_rfl) (by decide) (fun K hK => ?_)
 refine goes_ Tryz.func8 (by kernel_rfl) rfl #[.agg #[.int .i64 a0_0, .int .i64 a0_1, .slice A0_2 l0_2.length c0_2, .slice A0_3 l0_3.length c0_3]] (by rfl) rfl rfl zm ?_
 with_reducible refine (laws_toEngine.calls k a0_0 a0_1 _ c0_2 l0_2 _ c0_3 l0_3 x0 x1 x2 x3 _ (Kd.C_drew (Kd.C_below HR2.out HB.out)) HC2.out (Kd.C_drew (Kd.C_below HR3.out HB.out)) HC3.out HX.out).mono ?_
 rintro e ua ⟨vz2, vz3, rfl, hs2, hs3, hb⟩
 refine ⟨_, rfl, ?_⟩
 obtain ⟨Az2, cz2, e2⟩ := Kd.S_slice hs2
 subst e2
 have Sz2 := Aside0.mk hs2
 clear hs2
 obtain ⟨Az3, cz3, e3⟩ := Kd.S_slice hs3
 subst e3
 have Sz3 := Aside0.mk hs3
 clear hs3
 replace hb : Below u10.heap.size u10 ua := below_step (below_drew (Below.refl _ _)) hb
 replace HB := Aside0.mk (show Below w.heap.size w ua from below_step HB.out hb)
 have hsz := Aside0.mk hb.size
 replace X1 := Aside0.mk (keepB hb X1.out)
 replace Rw := Aside0.mk (Kd.R_below Rw.out hb)
 replace X5 := Aside0.mk (keepB hb X5.out)
 replace Sx2 := Aside0.mk (Kd.S_below Sx2.out hb)
 replace Sx3 := Aside0.mk (Kd.S_below Sx3.out hb)
 replace X7 := Aside0.mk (keepB hb X7.out)
 replace Rg := Aside0.mk (Kd.R_below Rg.out hb)
 replace X9 := Aside0.mk (keepB hb X9.out)
 have z11 := hsz
 clear hsz
 refine hK.out _ _ ⟨(blk_cell X7.out 0).trans rfl, (blk_cell X7.out 1).trans rfl, (blk_cell X7.out 2).trans rfl, (blk_cell X7.out 3).trans rfl, (blk_cell X1.out 0).trans rfl, (blk_cell X1.out 1).trans rfl, (blk_cell X1.out 2).trans rfl, (blk_cell X1.out 3).trans rfl⟩ (fun hHeld => ?_)
 clear hK K
 refine norm_ (a' := ?_) ?_ ?_
 rotate_left
 ·show Act.put _ (some 29) _ = _
  simp only [Act.put, List.setIfInBounds_toArray, List.set_cons_zero, List.set_cons_succ, i64_w, i32_w]
  rfl
 refine one_ (i := 3) (N := some 30) #[true, true, true, true, false] rfl rfl (by kernel_rfl) (by decide) (fun K hK => ?_)
 refine goes_ Tryz.func11 (by kernel_rfl) rfl #[.agg #[.int .i64 x0, .int .i64 x1, .slice Ax2 x2.length cx2, .slice Ax3 x3.length cx3], .agg #[.int .i64 x0, .int .i64 x1, .slice Az2 x2.length cz2, .slice Az3 x3.length cz3]] (by rfl) rfl rfl zm ?_
 with_reducible refine (laws_eqEngine.calls k x0 x1 _ cx2 x2 _ cx3 x3 x0 x1 _ cz2 x2 _ cz3 x3 true _ (Kd.S_reads' Sx2.out).2.2 (Kd.S_reads' Sx2.out).2.1 (Kd.S_reads' Sx3.out).2.2 (Kd.S_reads' Sx3.out).2.1 (Kd.S_reads' Sz2.out).2.2 (Kd.S_reads' Sz2.out).2.1 (Kd.S_reads' Sz3.out).2.2 (Kd.S_reads' Sz3.out).2.1 HQ2.out).mono ?_
 rintro e ub ⟨rfl, hb⟩
 refine ⟨_, rfl, ?_⟩
 replace HB := Aside0.mk (show Below w.heap.size w ub from below_step HB.out hb)
 have hsz := Aside0.mk hb.size
 replace X1 := Aside0.mk (keepB hb X1.out)
 replace Rw := Aside0.mk (Kd.R_below Rw.out hb)
 replace X5 := Aside0.mk (keepB hb X5.out)
 replace Sx2 := Aside0.mk (Kd.S_below Sx2.out hb)
 replace Sx3 := Aside0.mk (Kd.S_below Sx3.out hb)
 replace X7 := Aside0.mk (keepB hb X7.out)
 replace Rg := Aside0.mk (Kd.R_below Rg.out hb)
 replace X9 := Aside0.mk (keepB hb X9.out)
 have z12 := hsz
 clear hsz
 refine hK.out _ _ ⟨(blk_cell X7.out 0).trans rfl, (blk_cell X7.out 1).trans rfl, (blk_cell X7.out 2).trans rfl, (blk_cell X7.out 3).trans rfl, (blk_cell X1.out 0).trans rfl, (blk_cell X1.out 1).trans rfl, (blk_cell X1.out 2).trans rfl, (blk_cell X1.out 3).trans rfl⟩ (fun hHeld => ?_)
 clear hK K
 refine norm_ (a' := ?_) ?_ ?_
 rotate_left
 ·show Act.put _ (some 30) _ = _
  simp only [Act.put, List.setIfInBounds_toArray, List.set_cons_zero, List.set_cons_succ, i64_w, i32_w]
  rfl
 refine zp 4 31 ?_
 refine done_ (by kernel_rfl) ?_
 obtain ⟨cX7_0, cX7_1, cX7_2, cX7_3, lX7, nX7⟩ := box4 X7.out
 obtain ⟨cX9_0, cX9_1, lX9, nX9⟩ := box2 X9.out
 obtain ⟨cX5_0, cX5_1, lX5, nX5⟩ := box2 X5.out
 obtain ⟨cX1_0, cX1_1, cX1_2, cX1_3, lX1, nX1⟩ := box4 X1.out
 go_wp2_with fail
 clear cX7_0 cX7_1 cX7_2 cX7_3 lX7 nX7 cX9_0 cX9_1 lX9 nX9 cX5_0 cX5_1 lX5 nX5 cX1_0 cX1_1 cX1_2 cX1_3 lX1 nX1
 have hz0 := Aside0.mk HB.out.size
 refine (laws_markEngine.calls k x0 x1 (fun k_ => (u5.heap.size ≤ k_ ∧ k_ < u6.heap.size) ∧ ∃ q_, q_ ∈ [84, 100] ∧ ∃ cells, u6.heap[k_]? = some (.cells cells q_ (0, 0))) _ x2 (fun k_ => (u5.heap.size ≤ k_ ∧ k_ < u6.heap.size) ∧ ∃ q_, q_ ∈ [87, 89] ∧ ∃ cells, u6.heap[k_]? = some (.cells cells q_ (0, 0))) _ x3 1 m1 m2 m3 w _ HB.out Sx2.out Sx3.out (fun k_ h1 h2 => two_types h1.2 h2.2 (by decide)) HM.out).mono ?_
 rintro e u11 ⟨rfl, -, -, hB, hk⟩
 clear Sx2 Sx3
 replace HB := Aside0.mk hB
 have hsz := Aside0.mk hk.1
 replace X1 := Aside0.mk ((hk.2 _ (blk_lt X1.out) (fun hp => by have h1 := (show _ ∧ _ from hp.elim (fun h => h.1) (fun h => h.1)); have qz1_ := z1.out; have qz2_ := z2.out; have qz3_ := z3.out; have qz4_ := z4.out; have qz5_ := z5.out; have qz6_ := z6.out; have qz7_ := z7.out; have qz8_ := z8.out; have qz9_ := z9.out; have qz10_ := z10.out; have qz11_ := z11.out; have qz12_ := z12.out; omega)).trans X1.out)
 replace Rw := Aside0.mk (Kd.R_step Rw.out (fun k_ ho_ hlt_ => hk.2 k_ hlt_ (fun hp => by have h1 := (show _ ∧ _ from hp.elim (fun h => h.1) (fun h => h.1)); have h2 := ho_; have qz1_ := z1.out; have qz2_ := z2.out; have qz3_ := z3.out; have qz4_ := z4.out; have qz5_ := z5.out; have qz6_ := z6.out; have qz7_ := z7.out; have qz8_ := z8.out; have qz9_ := z9.out; have qz10_ := z10.out; have qz11_ := z11.out; have qz12_ := z12.out; omega)))
 replace X5 := Aside0.mk ((hk.2 _ (blk_lt X5.out) (fun hp => by have h1 := (show _ ∧ _ from hp.elim (fun h => h.1) (fun h => h.1)); have qz1_ := z1.out; have qz2_ := z2.out; have qz3_ := z3.out; have qz4_ := z4.out; have qz5_ := z5.out; have qz6_ := z6.out; have qz7_ := z7.out; have qz8_ := z8.out; have qz9_ := z9.out; have qz10_ := z10.out; have qz11_ := z11.out; have qz12_ := z12.out; omega)).trans X5.out)
 replace X7 := Aside0.mk ((hk.2 _ (blk_lt X7.out) (fun hp => by have h1 := (show _ ∧ _ from hp.elim (fun h => h.1) (fun h => h.1)); have qz1_ := z1.out; have qz2_ := z2.out; have qz3_ := z3.out; have qz4_ := z4.out; have qz5_ := z5.out; have qz6_ := z6.out; have qz7_ := z7.out; have qz8_ := z8.out; have qz9_ := z9.out; have qz10_ := z10.out; have qz11_ := z11.out; have qz12_ := z12.out; omega)).trans X7.out)
 replace Rg := Aside0.mk (Kd.R_step Rg.out (fun k_ ho_ hlt_ => hk.2 k_ hlt_ (fun hp => by have h1 := (show _ ∧ _ from hp.elim (fun h => h.1) (fun h => h.1)); have h2 := ho_; have qz1_ := z1.out; have qz2_ := z2.out; have qz3_ := z3.out; have qz4_ := z4.out; have qz5_ := z5.out; have qz6_ := z6.out; have qz7_ := z7.out; have qz8_ := z8.out; have qz9_ := z9.out; have qz10_ := z10.out; have qz11_ := z11.out; have qz12_ := z12.out; omega)))
 replace X9 := Aside0.mk ((hk.2 _ (blk_lt X9.out) (fun hp => by have h1 := (show _ ∧ _ from hp.elim (fun h => h.1) (fun h => h.1)); have qz1_ := z1.out; have qz2_ := z2.out; have qz3_ := z3.out; have qz4_ := z4.out; have qz5_ := z5.out; have qz6_ := z6.out; have qz7_ := z7.out; have qz8_ := z8.out; have qz9_ := z9.out; have qz10_ := z10.out; have qz11_ := z11.out; have qz12_ := z12.out; omega)).trans X9.out)
 have z13 := hsz
 clear hsz hB hk hz0
 obtain ⟨cX9_0, cX9_1, lX9, nX9⟩ := box2 X9.out
 obtain ⟨cX5_0, cX5_1, lX5, nX5⟩ := box2 X5.out
 obtain ⟨cX1_0, cX1_1, cX1_2, cX1_3, lX1, nX1⟩ := box4 X1.out
 go_wp2_with fail
 clear cX9_0 cX9_1 lX9 nX9 cX5_0 cX5_1 lX5 nX5 cX1_0 cX1_1 cX1_2 cX1_3 lX1 nX1
 refine (laws_eqPairsResult.calls k g1 _ cg g2 s1 _ cw s2 true _ (Kd.R_reads' Rg.out).2.2 (Kd.R_reads' Rg.out).2.1 (Kd.R_reads' Rw.out).2.2 (Kd.R_reads' Rw.out).2.1 HQ1.out).mono ?_
 rintro e u12 ⟨rfl, hb⟩
 have hsz := hb.size
 replace HB := Aside0.mk (show Below w.heap.size w u12 from below_step HB.out hb)
 replace X1 := Aside0.mk (keepB hb X1.out)
 replace Rw := Aside0.mk (Kd.R_below Rw.out hb)
 replace X5 := Aside0.mk (keepB hb X5.out)
 replace X7 := Aside0.mk (keepB hb X7.out)
 replace Rg := Aside0.mk (Kd.R_below Rg.out hb)
 replace X9 := Aside0.mk (keepB hb X9.out)
 have z14 := Aside0.mk hsz
 clear hsz
 obtain ⟨cX9_0, cX9_1, lX9, nX9⟩ := box2 X9.out
 obtain ⟨cX5_0, cX5_1, lX5, nX5⟩ := box2 X5.out
 obtain ⟨cX1_0, cX1_1, cX1_2, cX1_3, lX1, nX1⟩ := box4 X1.out
 go_wp2_with fail
 clear cX9_0 cX9_1 lX9 nX9 cX5_0 cX5_1 lX5 nX5 cX1_0 cX1_1 cX1_2 cX1_3 lX1 nX1
 have hlo : w.heap.size ≤ u7.heap.size := by have hx_ := blk_lt X1.out; have qz1_ := z1.out; have qz2_ := z2.out; have qz3_ := z3.out; have qz4_ := z4.out; have qz5_ := z5.out; have qz6_ := z6.out; have qz7_ := z7.out; have qz8_ := z8.out; have qz9_ := z9.out; have qz10_ := z10.out; have qz11_ := z11.out; have qz12_ := z12.out; have qz13_ := z13.out; have qz14_ := z14.out; omega
 refine (laws_markPairsResult.calls k g1 (fun k_ => u7.heap.size ≤ k_ ∧ k_ < u8.heap.size) _ g2 1 q3 n2 w _ HB.out (Kd.R_lower Rg.out hlo) HN.out).mono ?_
 rintro e u13 ⟨rfl, hg2, hB, hk⟩
 clear Rg
 replace HB := Aside0.mk hB
 have hsz := Aside0.mk hk.1
 replace X1 := Aside0.mk ((hk.2 _ (blk_lt X1.out) (fun hp => by have h1 := hp; have qz1_ := z1.out; have qz2_ := z2.out; have qz3_ := z3.out; have qz4_ := z4.out; have qz5_ := z5.out; have qz6_ := z6.out; have qz7_ := z7.out; have qz8_ := z8.out; have qz9_ := z9.out; have qz10_ := z10.out; have qz11_ := z11.out; have qz12_ := z12.out; have qz13_ := z13.out; have qz14_ := z14.out; omega)).trans X1.out)
 replace Rw := Aside0.mk (Kd.R_step Rw.out (fun k_ ho_ hlt_ => hk.2 k_ hlt_ (fun hp => by have h1 := hp; have h2 := ho_; have qz1_ := z1.out; have qz2_ := z2.out; have qz3_ := z3.out; have qz4_ := z4.out; have qz5_ := z5.out; have qz6_ := z6.out; have qz7_ := z7.out; have qz8_ := z8.out; have qz9_ := z9.out; have qz10_ := z10.out; have qz11_ := z11.out; have qz12_ := z12.out; have qz13_ := z13.out; have qz14_ := z14.out; omega)))
 replace X5 := Aside0.mk ((hk.2 _ (blk_lt X5.out) (fun hp => by have h1 := hp; have qz1_ := z1.out; have qz2_ := z2.out; have qz3_ := z3.out; have qz4_ := z4.out; have qz5_ := z5.out; have qz6_ := z6.out; have qz7_ := z7.out; have qz8_ := z8.out; have qz9_ := z9.out; have qz10_ := z10.out; have qz11_ := z11.out; have qz12_ := z12.out; have qz13_ := z13.out; have qz14_ := z14.out; omega)).trans X5.out)
 replace X7 := Aside0.mk ((hk.2 _ (blk_lt X7.out) (fun hp => by have h1 := hp; have qz1_ := z1.out; have qz2_ := z2.out; have qz3_ := z3.out; have qz4_ := z4.out; have qz5_ := z5.out; have qz6_ := z6.out; have qz7_ := z7.out; have qz8_ := z8.out; have qz9_ := z9.out; have qz10_ := z10.out; have qz11_ := z11.out; have qz12_ := z12.out; have qz13_ := z13.out; have qz14_ := z14.out; omega)).trans X7.out)
 replace X9 := Aside0.mk ((hk.2 _ (blk_lt X9.out) (fun hp => by have h1 := hp; have qz1_ := z1.out; have qz2_ := z2.out; have qz3_ := z3.out; have qz4_ := z4.out; have qz5_ := z5.out; have qz6_ := z6.out; have qz7_ := z7.out; have qz8_ := z8.out; have qz9_ := z9.out; have qz10_ := z10.out; have qz11_ := z11.out; have qz12_ := z12.out; have qz13_ := z13.out; have qz14_ := z14.out; omega)).trans X9.out)
 have z15 := hsz
 clear hsz hB hk hlo
 obtain ⟨gl_, -, -⟩ := Kd.R_reads' hg2
 rw [gl_] at hg2
 have Rg := Aside0.mk hg2
 have GL := Aside0.mk gl_
 clear hg2 gl_
 obtain ⟨cX9_0, cX9_1, lX9, nX9⟩ := box2 X9.out
 obtain ⟨cX5_0, cX5_1, lX5, nX5⟩ := box2 X5.out
 obtain ⟨cX1_0, cX1_1, cX1_2, cX1_3, lX1, nX1⟩ := box4 X1.out
 go_wp2_with fail
 clear cX9_0 cX9_1 lX9 nX9 cX5_0 cX5_1 lX5 nX5 cX1_0 cX1_1 cX1_2 cX1_3 lX1 nX1
 rw [GL.out]
 refine (laws_heldPairsResult.calls k g1 _ cg n2 1 q3 _ (Kd.R_reads' Rg.out).2.2 (Kd.R_reads' Rg.out).2.1 HQ3.out).mono ?_
 rintro e u14 ⟨rfl, hb⟩
 have hsz := hb.size
 replace HB := Aside0.mk (show Below w.heap.size w u14 from below_step HB.out hb)
 replace X1 := Aside0.mk (keepB hb X1.out)
 replace Rw := Aside0.mk (Kd.R_below Rw.out hb)
 replace X5 := Aside0.mk (keepB hb X5.out)
 replace X7 := Aside0.mk (keepB hb X7.out)
 replace X9 := Aside0.mk (keepB hb X9.out)
 replace Rg := Aside0.mk (Kd.R_below Rg.out hb)
 have z16 := Aside0.mk hsz
 clear hsz
 obtain ⟨cX9_0, cX9_1, lX9, nX9⟩ := box2 X9.out
 obtain ⟨cX5_0, cX5_1, lX5, nX5⟩ := box2 X5.out
 obtain ⟨cX1_0, cX1_1, cX1_2, cX1_3, lX1, nX1⟩ := box4 X1.out
 go_wp2_with fail
 clear cX9_0 cX9_1 lX9 nX9 cX5_0 cX5_1 lX5 nX5 cX1_0 cX1_1 cX1_2 cX1_3 lX1 nX1
 have hlo := Aside0.mk HB.out.size
 refine (laws_toEngine.calls k a0_0 a0_1 _ c0_2 l0_2 _ c0_3 l0_3 x0 x1 x2 x3 _ (Kd.C_below HR2.out HB.out) HC2.out (Kd.C_below HR3.out HB.out) HC3.out HX.out).mono ?_
 rintro e u15 ⟨vy2, vy3, rfl, hs2, hs3, hb⟩
 have hsz := hb.size
 replace HB := Aside0.mk (show Below w.heap.size w u15 from below_step HB.out hb)
 replace X1 := Aside0.mk (keepB hb X1.out)
 replace Rw := Aside0.mk (Kd.R_below Rw.out hb)
 replace X5 := Aside0.mk (keepB hb X5.out)
 replace X7 := Aside0.mk (keepB hb X7.out)
 replace X9 := Aside0.mk (keepB hb X9.out)
 replace Rg := Aside0.mk (Kd.R_below Rg.out hb)
 have z17 := Aside0.mk hsz
 clear hsz
 obtain ⟨Ay2, cy2, e2⟩ := Kd.S_slice hs2
 subst e2
 have Sy2 := Aside0.mk (show Kd.S k84 84 u15 u14.heap.size (fun _ => True) (.slice Ay2 x2.length cy2) x2 from hs2)
 clear hs2
 obtain ⟨Ay3, cy3, e3⟩ := Kd.S_slice hs3
 subst e3
 have Sy3 := Aside0.mk (show Kd.S k87 87 u15 u14.heap.size (fun _ => True) (.slice Ay3 x3.length cy3) x3 from hs3)
 clear hs3
 clear hlo
 obtain ⟨cX1_0, cX1_1, cX1_2, cX1_3, lX1, nX1⟩ := box4 X1.out
 obtain ⟨cX5_0, cX5_1, lX5, nX5⟩ := box2 X5.out
 obtain ⟨cX9_0, cX9_1, lX9, nX9⟩ := box2 X9.out
 go_wp2_with fail
 clear cX1_0 cX1_1 cX1_2 cX1_3 lX1 nX1 cX5_0 cX5_1 lX5 nX5 cX9_0 cX9_1 lX9 nX9
 refine (impl_BuildIndex.calls k x0 x1 _ cy2 x2 _ cy3 x3 g1 g2 _ (Kd.S_reads' Sy2.out).2.2 (Kd.S_reads' Sy2.out).2.1 (Kd.S_reads' Sy3.out).2.2 (Kd.S_reads' Sy3.out).2.1 HG.out).mono ?_
 rintro e u16 ⟨vh, rfl, hr, hb⟩
 have hsz := hb.size
 replace HB := Aside0.mk (show Below w.heap.size w u16 from below_step HB.out hb)
 replace X1 := Aside0.mk (keepB hb X1.out)
 replace Rw := Aside0.mk (Kd.R_below Rw.out hb)
 replace X5 := Aside0.mk (keepB hb X5.out)
 replace X7 := Aside0.mk (keepB hb X7.out)
 replace X9 := Aside0.mk (keepB hb X9.out)
 replace Rg := Aside0.mk (Kd.R_below Rg.out hb)
 replace Sy2 := Aside0.mk (Kd.S_below Sy2.out hb)
 replace Sy3 := Aside0.mk (Kd.S_below Sy3.out hb)
 have z18 := Aside0.mk hsz
 clear hsz
 obtain ⟨Ah, ch, e1⟩ := Kd.R_slice hr
 subst e1
 have Rh := Aside0.mk (show Kd.R k55 55 u16 u15.heap.size (fun k_ => u15.heap.size ≤ k_ ∧ k_ < u16.heap.size) (.slice Ah g2.length ch) g2 from Kd.R_mono (Kd.R_bound hr) (fun k_ h_ => ⟨h_.2.1, h_.2.2.1⟩))
 clear hr
 clear Sy2 Sy3
 obtain ⟨cX9_0, cX9_1, lX9, nX9⟩ := box2 X9.out
 obtain ⟨cX5_0, cX5_1, lX5, nX5⟩ := box2 X5.out
 obtain ⟨cX1_0, cX1_1, cX1_2, cX1_3, lX1, nX1⟩ := box4 X1.out
 go_wp2_with fail
 clear cX9_0 cX9_1 lX9 nX9 cX5_0 cX5_1 lX5 nX5 cX1_0 cX1_1 cX1_2 cX1_3 lX1 nX1
 have hb : Below u16.heap.size u16 (u16.alloc (Obj.cells #[.int .i64 g1, .slice Ah g2.length ch] 41)) := below_alloc (Below.refl _ _) _
 have hbx := blk_new u16 (Obj.cells #[.int .i64 g1, .slice Ah g2.length ch] 41)
 have hsz : u16.heap.size + 1 = (u16.alloc (Obj.cells #[.int .i64 g1, .slice Ah g2.length ch] 41)).heap.size := by simp
 replace HB := Aside0.mk (below_alloc HB.out (Obj.cells #[.int .i64 g1, .slice Ah g2.length ch] 41))
 replace X1 := Aside0.mk (keepB hb X1.out)
 replace Rw := Aside0.mk (Kd.R_below Rw.out hb)
 replace X5 := Aside0.mk (keepB hb X5.out)
 replace X7 := Aside0.mk (keepB hb X7.out)
 replace X9 := Aside0.mk (keepB hb X9.out)
 replace Rg := Aside0.mk (Kd.R_below Rg.out hb)
 replace Rh := Aside0.mk (Kd.R_below Rh.out hb)
 have hbz := Aside0.mk hb
 have hbxz := Aside0.mk hbx
 have hszz := Aside0.mk hsz
 clear hb hbx hsz
 generalize u16.alloc (Obj.cells #[.int .i64 g1, .slice Ah g2.length ch] 41) = u17 at HB hbz hbxz hszz X1 Rw X5 X7 X9 Rg Rh ⊢
 have X19 := hbxz
 have z19 := hszz
 clear hbz hbxz hszz
 refine (laws_eqPairsResult.calls k g1 _ ch g2 s1 _ cw s2 true _ (Kd.R_reads' Rh.out).2.2 (Kd.R_reads' Rh.out).2.1 (Kd.R_reads' Rw.out).2.2 (Kd.R_reads' Rw.out).2.1 HQ1.out).mono ?_
 rintro e u18 ⟨rfl, hb⟩
 have hsz := hb.size
 replace HB := Aside0.mk (show Below w.heap.size w u18 from below_step HB.out hb)
 replace X1 := Aside0.mk (keepB hb X1.out)
 replace Rw := Aside0.mk (Kd.R_below Rw.out hb)
 replace X5 := Aside0.mk (keepB hb X5.out)
 replace X7 := Aside0.mk (keepB hb X7.out)
 replace X9 := Aside0.mk (keepB hb X9.out)
 replace Rg := Aside0.mk (Kd.R_below Rg.out hb)
 replace Rh := Aside0.mk (Kd.R_below Rh.out hb)
 replace X19 := Aside0.mk (keepB hb X19.out)
 have z20 := Aside0.mk hsz
 clear hsz
 obtain ⟨cX9_0, cX9_1, lX9, nX9⟩ := box2 X9.out
 obtain ⟨cX5_0, cX5_1, lX5, nX5⟩ := box2 X5.out
 obtain ⟨cX1_0, cX1_1, cX1_2, cX1_3, lX1, nX1⟩ := box4 X1.out
 go_wp2_with fail
 clear cX9_0 cX9_1 lX9 nX9 cX5_0 cX5_1 lX5 nX5 cX1_0 cX1_1 cX1_2 cX1_3 lX1 nX1
 rw [GL.out]
 refine (laws_heldPairsResult.calls k g1 _ cg n2 1 q3 _ (Kd.R_reads' Rg.out).2.2 (Kd.R_reads' Rg.out).2.1 HQ3.out).mono ?_
 rintro e u19 ⟨rfl, hb⟩
 have hsz := hb.size
 replace HB := Aside0.mk (show Below w.heap.size w u19 from below_step HB.out hb)
 replace X1 := Aside0.mk (keepB hb X1.out)
 replace Rw := Aside0.mk (Kd.R_below Rw.out hb)
 replace X5 := Aside0.mk (keepB hb X5.out)
 replace X7 := Aside0.mk (keepB hb X7.out)
 replace X9 := Aside0.mk (keepB hb X9.out)
 replace Rg := Aside0.mk (Kd.R_below Rg.out hb)
 replace Rh := Aside0.mk (Kd.R_below Rh.out hb)
 replace X19 := Aside0.mk (keepB hb X19.out)
 have z21 := Aside0.mk hsz
 clear hsz
 go_wp2_with fail
 go_ret
 exact ⟨rfl, HB.out⟩
end Go.Proofs.YtocdahbinombkaaGreat.P
