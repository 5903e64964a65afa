-- Printed by this session's own program over the kit's print (wip/tools/mp.py). Not trusted: Lean checks it.
import Derived.Test.YtdhdgkonghefeaaP0
import Derived.Test.YtdhdgkonghefeaaPCabcde0
import Derived.Test.YtdhdgkonghefeaaPCabcde1
import Derived.Test.YtdhdgkonghefeaaPCde0
import Derived.Test.YtdhdgkonghefeaaPCef0
import Derived.Test.YtdhdgkonghefeaaPDm0
import Derived.Test.YtdhdgkonghefeaaPDe0
import Derived.Test.YtdhdgkonghefeaaLb
import Derived.Test.YtdhdgkonghefeaaLv
import Derived.IntWalk
import Derived.Shelf.Abstract
import Derived.Test.YtdhdgkonghefeaaZz
namespace Go.Proofs.Ytdhdgkonghefeaa.P
open Go.RowKit Go.Proofs.YtdhdgkonghefeaaW.PrintWords Go.Proofs.YtdhdgkonghefeaaW.PrintLast Go.Proofs.YtdhdgkonghefeaaW.PrintMore
attribute [local go_sem] max2_int min2_int max_two min_two max_three min_three max_four min_four   -- for this text's walks alone
set_option linter.unusedVariables false
set_option linter.unusedSimpArgs false

/-! ### laws_FnExactKeysIn: function 7 -/
-- PROOF --
-- NEEDS Derived.Test.YtdhdgkonghefeaaLb
-- NEEDS Derived.Test.YtdhdgkonghefeaaLv
-- NEEDS Derived.IntWalk
-- NEEDS Derived.Shelf.Abstract
-- NEEDS Derived.Test.YtdhdgkonghefeaaZz
set_option maxHeartbeats 16000000 in
set_option maxRecDepth 100000 in
theorem laws_FnExactKeysIn.calls (k : Nat) (a0_0 : Int) (A0_1 : Option Addr) (c0_1 : Nat) (l0_1 : List (S89)) (a1 : Int) (a2 : Int) (w : World) (hr0_1 : Kd.C k89 w A0_1 l0_1.length l0_1) (hc0_1 : l0_1.length ≤ c0_1) (h : laws_FnExactKeysIn.f k a0_0 l0_1 a1 a2 = some true) :
  Calls Try.prog 7 #[.agg #[.int .i64 a0_0, .slice A0_1 l0_1.length c0_1], .int .i64 a1, .int .i64 a2] w fun e w' => e = .returned (.bool true) ∧ Below w.heap.size w w' := by
 have hu24 := Try.underlying24
 have hu29 := Try.underlying29
 have hu41 := Try.underlying41
 have HR1 := Aside0.mk hr0_1
 have HC1 := Aside0.mk hc0_1
 clear hr0_1 hc0_1
 have HB := Aside0.mk (Below.refl w.heap.size w)
 unfold laws_FnExactKeysIn.f at h
 obtain ⟨t, ht, h⟩ := Option.bind_eq_some_iff.mp h
 have HT := Aside0.mk ht
 clear ht
 by_cases ct : t < 0
 ·skip
  have ct0 : decide (t < 0) = true := decide_eq_true ct
  have h := Aside0.mk h
  go_enter Try.func7, Try.ntmps7
  go_wp2_with fail
  have hb : Below w.heap.size w (w.alloc (Obj.cells #[.int .i64 a0_0, .slice A0_1 l0_1.length c0_1] 24)) := below_alloc (Below.refl _ _) _
  have hbx := blk_new w (Obj.cells #[.int .i64 a0_0, .slice A0_1 l0_1.length c0_1] 24)
  have hsz : w.heap.size + 1 = (w.alloc (Obj.cells #[.int .i64 a0_0, .slice A0_1 l0_1.length c0_1] 24)).heap.size := by simp
  replace HB := Aside0.mk (below_alloc HB.out (Obj.cells #[.int .i64 a0_0, .slice A0_1 l0_1.length c0_1] 24))
  have hbz := Aside0.mk hb
  have hbxz := Aside0.mk hbx
  have hszz := Aside0.mk hsz
  clear hb hbx hsz
  generalize w.alloc (Obj.cells #[.int .i64 a0_0, .slice A0_1 l0_1.length c0_1] 24) = u1 at HB hbz hbxz hszz ⊢
  have X1 := hbxz
  have z1 := hszz
  clear hbz hbxz hszz
  refine (laws_szTree.calls k a0_0 _ c0_1 l0_1 1048576 t _ (Kd.C_below HR1.out HB.out) HC1.out HT.out).mono ?_
  rintro e u2 ⟨rfl, hb⟩
  have hsz := hb.size
  replace HB := Aside0.mk (show Below w.heap.size w u2 from below_step HB.out hb)
  replace X1 := Aside0.mk (keepB hb X1.out)
  have z2 := Aside0.mk hsz
  clear hsz
  go_wp2_with fail
  go_ret
  exact ⟨rfl, HB.out⟩
 ·skip
  rw [if_neg ct] at h
  obtain ⟨⟨x0, x1⟩, hx, h⟩ := Option.bind_eq_some_iff.mp h
  have HX := Aside0.mk hx
  obtain ⟨⟨s1, s2⟩, hs, h⟩ := Option.bind_eq_some_iff.mp h
  have HS := Aside0.mk hs
  obtain ⟨⟨g1, g2⟩, hg, h⟩ := Option.bind_eq_some_iff.mp h
  have HG := Aside0.mk hg
  obtain ⟨q1, hq1, h⟩ := Option.bind_eq_some_iff.mp h
  cases q1 with
  | false => exact absurd h (by simp)
  | true =>
  rw [if_pos rfl] at h
  have HQ1 := Aside0.mk hq1
  obtain ⟨q2, hq2, h⟩ := Option.bind_eq_some_iff.mp h
  cases q2 with
  | false => exact absurd h (by simp)
  | true =>
  rw [if_pos rfl] at h
  have HQ2 := Aside0.mk hq2
  obtain ⟨⟨m1, m2⟩, hm, h⟩ := Option.bind_eq_some_iff.mp h
  have HM := Aside0.mk hm
  by_cases cm : m1 < 0
  ·exact absurd h (by rw [if_pos cm]; decide)
  rw [if_neg cm] at h
  obtain ⟨⟨n1, n2⟩, hn, h⟩ := Option.bind_eq_some_iff.mp h
  have HN := Aside0.mk hn
  obtain ⟨q3, hq3, h⟩ := Option.bind_eq_some_iff.mp h
  have HQ3 := Aside0.mk hq3
  by_cases cq : q3 < 0
  ·exact absurd h (by rw [if_pos cq]; decide)
  rw [if_neg cq] at h
  have cn : q3 = n1 := Decidable.byContradiction fun c => by rw [if_neg c] at h; simp at h
  subst cn
  clear h hx hs hg hq1 hq2 hm hn hq3
  have h : True := trivial
  have cm0 : decide (m1 < 0) = false := decide_eq_false cm
  have cq0 : decide (q3 < 0) = false := decide_eq_false cq
  have ct0 : decide (t < 0) = false := decide_eq_false ct
  have h := Aside0.mk h
  go_enter Try.func7, Try.ntmps7
  go_wp2_with fail
  have hb : Below w.heap.size w (w.alloc (Obj.cells #[.int .i64 a0_0, .slice A0_1 l0_1.length c0_1] 24)) := below_alloc (Below.refl _ _) _
  have hbx := blk_new w (Obj.cells #[.int .i64 a0_0, .slice A0_1 l0_1.length c0_1] 24)
  have hsz : w.heap.size + 1 = (w.alloc (Obj.cells #[.int .i64 a0_0, .slice A0_1 l0_1.length c0_1] 24)).heap.size := by simp
  replace HB := Aside0.mk (below_alloc HB.out (Obj.cells #[.int .i64 a0_0, .slice A0_1 l0_1.length c0_1] 24))
  have hbz := Aside0.mk hb
  have hbxz := Aside0.mk hbx
  have hszz := Aside0.mk hsz
  clear hb hbx hsz
  generalize w.alloc (Obj.cells #[.int .i64 a0_0, .slice A0_1 l0_1.length c0_1] 24) = u1 at HB hbz hbxz hszz ⊢
  have X1 := hbxz
  have z1 := hszz
  clear hbz hbxz hszz
  refine (laws_szTree.calls k a0_0 _ c0_1 l0_1 1048576 t _ (Kd.C_below HR1.out HB.out) HC1.out HT.out).mono ?_
  rintro e u2 ⟨rfl, hb⟩
  have hsz := hb.size
  replace HB := Aside0.mk (show Below w.heap.size w u2 from below_step HB.out hb)
  replace X1 := Aside0.mk (keepB hb X1.out)
  have z2 := Aside0.mk hsz
  clear hsz
  have cX1_0 : u2.cell? ⟨w.heap.size, 0, none⟩ = some (.int .i64 a0_0) := (blk_cell X1.out 0).trans rfl
  have cX1_1 : u2.cell? ⟨w.heap.size, 1, none⟩ = some (.slice A0_1 l0_1.length c0_1) := (blk_cell X1.out 1).trans rfl
  have lX1 : w.heap.size < u2.heap.size := blk_lt X1.out
  have nX1 : w.heap.size ≠ u2.heap.size := Nat.ne_of_lt (blk_lt X1.out)
  go_wp2_with fail
  clear cX1_0 cX1_1 lX1 nX1
  have hlo := Aside0.mk HB.out.size
  refine (laws_toTree.calls k a0_0 _ c0_1 l0_1 x0 x1 _ (Kd.C_below HR1.out HB.out) HC1.out HX.out).mono ?_
  rintro e u3 ⟨vy1, rfl, hs1, hb⟩
  have hsz := hb.size
  replace HB := Aside0.mk (show Below w.heap.size w u3 from below_step HB.out hb)
  replace X1 := Aside0.mk (keepB hb X1.out)
  have z3 := Aside0.mk hsz
  clear hsz
  obtain ⟨Ay1, cy1, e1⟩ := Kd.S_slice hs1
  subst e1
  have Sy1 := Aside0.mk (show Kd.S k58 58 u3 u2.heap.size (fun _ => True) (.slice Ay1 x1.length cy1) x1 from hs1)
  clear hs1
  clear hlo
  have cX1_0 : u3.cell? ⟨w.heap.size, 0, none⟩ = some (.int .i64 a0_0) := (blk_cell X1.out 0).trans rfl
  have cX1_1 : u3.cell? ⟨w.heap.size, 1, none⟩ = some (.slice A0_1 l0_1.length c0_1) := (blk_cell X1.out 1).trans rfl
  have lX1 : w.heap.size < u3.heap.size := blk_lt X1.out
  have nX1 : w.heap.size ≠ u3.heap.size := Nat.ne_of_lt (blk_lt X1.out)
  go_wp2_with fail
  clear cX1_0 cX1_1 lX1 nX1
  refine (spec_KeysIn.calls k x0 _ cy1 x1 a1 a2 s1 s2 _ (Kd.S_reads' Sy1.out).2.2 (Kd.S_reads' Sy1.out).2.1 HS.out).mono ?_
  rintro e u4 ⟨vw, rfl, hr, hb⟩
  have hsz := hb.size
  replace HB := Aside0.mk (show Below w.heap.size w u4 from below_step HB.out hb)
  replace X1 := Aside0.mk (keepB hb X1.out)
  replace Sy1 := Aside0.mk (Kd.S_below Sy1.out hb)
  have z4 := Aside0.mk hsz
  clear hsz
  obtain ⟨Aw, cw, e1⟩ := Kd.R_slice hr
  subst e1
  have Rw := Aside0.mk (show Kd.R (Kd.int .i64) 2 u4 u3.heap.size (fun k_ => u3.heap.size ≤ k_ ∧ k_ < u4.heap.size) (.slice Aw s2.length cw) s2 from Kd.R_mono (Kd.R_bound hr) (fun k_ h_ => ⟨h_.2.1, h_.2.2.1⟩))
  clear hr
  clear Sy1
  have cX1_0 : u4.cell? ⟨w.heap.size, 0, none⟩ = some (.int .i64 a0_0) := (blk_cell X1.out 0).trans rfl
  have cX1_1 : u4.cell? ⟨w.heap.size, 1, none⟩ = some (.slice A0_1 l0_1.length c0_1) := (blk_cell X1.out 1).trans rfl
  have lX1 : w.heap.size < u4.heap.size := blk_lt X1.out
  have nX1 : w.heap.size ≠ u4.heap.size := Nat.ne_of_lt (blk_lt X1.out)
  go_wp2_with fail
  clear cX1_0 cX1_1 lX1 nX1
  have hb : Below u4.heap.size u4 (u4.alloc (Obj.cells #[.int .i64 s1, .slice Aw s2.length cw] 41)) := below_alloc (Below.refl _ _) _
  have hbx := blk_new u4 (Obj.cells #[.int .i64 s1, .slice Aw s2.length cw] 41)
  have hsz : u4.heap.size + 1 = (u4.alloc (Obj.cells #[.int .i64 s1, .slice Aw s2.length cw] 41)).heap.size := by simp
  replace HB := Aside0.mk (below_alloc HB.out (Obj.cells #[.int .i64 s1, .slice Aw s2.length cw] 41))
  replace X1 := Aside0.mk (keepB hb X1.out)
  replace Rw := Aside0.mk (Kd.R_below Rw.out hb)
  have hbz := Aside0.mk hb
  have hbxz := Aside0.mk hbx
  have hszz := Aside0.mk hsz
  clear hb hbx hsz
  generalize u4.alloc (Obj.cells #[.int .i64 s1, .slice Aw s2.length cw] 41) = u5 at HB hbz hbxz hszz X1 Rw ⊢
  have X5 := hbxz
  have z5 := hszz
  clear hbz hbxz hszz
  have hlo := Aside0.mk HB.out.size
  refine (laws_toTree.calls k a0_0 _ c0_1 l0_1 x0 x1 _ (Kd.C_below HR1.out HB.out) HC1.out HX.out).mono ?_
  rintro e u6 ⟨vx1, rfl, hs1, hb⟩
  have hsz := hb.size
  replace HB := Aside0.mk (show Below w.heap.size w u6 from below_step HB.out hb)
  replace X1 := Aside0.mk (keepB hb X1.out)
  replace Rw := Aside0.mk (Kd.R_below Rw.out hb)
  replace X5 := Aside0.mk (keepB hb X5.out)
  have z6 := Aside0.mk hsz
  clear hsz
  obtain ⟨Ax1, cx1, e1⟩ := Kd.S_slice hs1
  subst e1
  have Sx1 := Aside0.mk (show Kd.S k58 58 u6 w.heap.size (fun k_ => (u5.heap.size ≤ k_ ∧ k_ < u6.heap.size) ∧ ∃ q_, q_ ∈ [58, 2, 2] ∧ ∃ cells, u6.heap[k_]? = some (.cells cells q_ (0, 0))) (.slice Ax1 x1.length cx1) x1 from Kd.S_mono (Kd.S_lower (Kd.S_bound hs1) hlo.out) (fun k_ h_ => ⟨⟨h_.2.1, h_.2.2.1⟩, h_.2.2.2⟩))
  clear hs1
  clear hlo
  have cX1_0 : u6.cell? ⟨w.heap.size, 0, none⟩ = some (.int .i64 a0_0) := (blk_cell X1.out 0).trans rfl
  have cX1_1 : u6.cell? ⟨w.heap.size, 1, none⟩ = some (.slice A0_1 l0_1.length c0_1) := (blk_cell X1.out 1).trans rfl
  have lX1 : w.heap.size < u6.heap.size := blk_lt X1.out
  have nX1 : w.heap.size ≠ u6.heap.size := Nat.ne_of_lt (blk_lt X1.out)
  go_wp2_with fail
  clear cX1_0 cX1_1 lX1 nX1
  have hb : Below u6.heap.size u6 (u6.alloc (Obj.cells #[.int .i64 x0, .slice Ax1 x1.length cx1] 29)) := below_alloc (Below.refl _ _) _
  have hbx := blk_new u6 (Obj.cells #[.int .i64 x0, .slice Ax1 x1.length cx1] 29)
  have hsz : u6.heap.size + 1 = (u6.alloc (Obj.cells #[.int .i64 x0, .slice Ax1 x1.length cx1] 29)).heap.size := by simp
  replace HB := Aside0.mk (below_alloc HB.out (Obj.cells #[.int .i64 x0, .slice Ax1 x1.length cx1] 29))
  replace X1 := Aside0.mk (keepB hb X1.out)
  replace Rw := Aside0.mk (Kd.R_below Rw.out hb)
  replace X5 := Aside0.mk (keepB hb X5.out)
  replace Sx1 := Aside0.mk (Kd.S_below Sx1.out hb)
  have hbz := Aside0.mk hb
  have hbxz := Aside0.mk hbx
  have hszz := Aside0.mk hsz
  clear hb hbx hsz
  generalize u6.alloc (Obj.cells #[.int .i64 x0, .slice Ax1 x1.length cx1] 29) = u7 at HB hbz hbxz hszz X1 Rw X5 Sx1 ⊢
  have X7 := hbxz
  have z7 := hszz
  clear hbz hbxz hszz
  refine (impl_KeysIn.calls k x0 _ cx1 x1 a1 a2 g1 g2 _ (Kd.S_reads' Sx1.out).2.2 (Kd.S_reads' Sx1.out).2.1 HG.out).mono ?_
  rintro e u8 ⟨vg, rfl, hr, hb⟩
  have hsz := hb.size
  replace HB := Aside0.mk (show Below w.heap.size w u8 from below_step HB.out hb)
  replace X1 := Aside0.mk (keepB hb X1.out)
  replace Rw := Aside0.mk (Kd.R_below Rw.out hb)
  replace X5 := Aside0.mk (keepB hb X5.out)
  replace Sx1 := Aside0.mk (Kd.S_below Sx1.out hb)
  replace X7 := Aside0.mk (keepB hb X7.out)
  have z8 := Aside0.mk hsz
  clear hsz
  obtain ⟨Ag, cg, e1⟩ := Kd.R_slice hr
  subst e1
  have Rg := Aside0.mk (show Kd.R (Kd.int .i64) 2 u8 u7.heap.size (fun k_ => u7.heap.size ≤ k_ ∧ k_ < u8.heap.size) (.slice Ag g2.length cg) g2 from Kd.R_mono (Kd.R_bound hr) (fun k_ h_ => ⟨h_.2.1, h_.2.2.1⟩))
  clear hr
  have cX1_0 : u8.cell? ⟨w.heap.size, 0, none⟩ = some (.int .i64 a0_0) := (blk_cell X1.out 0).trans rfl
  have cX1_1 : u8.cell? ⟨w.heap.size, 1, none⟩ = some (.slice A0_1 l0_1.length c0_1) := (blk_cell X1.out 1).trans rfl
  have lX1 : w.heap.size < u8.heap.size := blk_lt X1.out
  have nX1 : w.heap.size ≠ u8.heap.size := Nat.ne_of_lt (blk_lt X1.out)
  have cX5_0 : u8.cell? ⟨u4.heap.size, 0, none⟩ = some (.int .i64 s1) := (blk_cell X5.out 0).trans rfl
  have cX5_1 : u8.cell? ⟨u4.heap.size, 1, none⟩ = some (.slice Aw s2.length cw) := (blk_cell X5.out 1).trans rfl
  have lX5 : u4.heap.size < u8.heap.size := blk_lt X5.out
  have nX5 : u4.heap.size ≠ u8.heap.size := Nat.ne_of_lt (blk_lt X5.out)
  have cX7_0 : u8.cell? ⟨u6.heap.size, 0, none⟩ = some (.int .i64 x0) := (blk_cell X7.out 0).trans rfl
  have cX7_1 : u8.cell? ⟨u6.heap.size, 1, none⟩ = some (.slice Ax1 x1.length cx1) := (blk_cell X7.out 1).trans rfl
  have lX7 : u6.heap.size < u8.heap.size := blk_lt X7.out
  have nX7 : u6.heap.size ≠ u8.heap.size := Nat.ne_of_lt (blk_lt X7.out)
  go_wp2_with fail
  clear cX1_0 cX1_1 lX1 nX1 cX5_0 cX5_1 lX5 nX5 cX7_0 cX7_1 lX7 nX7
  have hb : Below u8.heap.size u8 (u8.alloc (Obj.cells #[.int .i64 g1, .slice Ag g2.length cg] 41)) := below_alloc (Below.refl _ _) _
  have hbx := blk_new u8 (Obj.cells #[.int .i64 g1, .slice Ag g2.length cg] 41)
  have hsz : u8.heap.size + 1 = (u8.alloc (Obj.cells #[.int .i64 g1, .slice Ag g2.length cg] 41)).heap.size := by simp
  replace HB := Aside0.mk (below_alloc HB.out (Obj.cells #[.int .i64 g1, .slice Ag g2.length cg] 41))
  replace X1 := Aside0.mk (keepB hb X1.out)
  replace Rw := Aside0.mk (Kd.R_below Rw.out hb)
  replace X5 := Aside0.mk (keepB hb X5.out)
  replace Sx1 := Aside0.mk (Kd.S_below Sx1.out hb)
  replace X7 := Aside0.mk (keepB hb X7.out)
  replace Rg := Aside0.mk (Kd.R_below Rg.out hb)
  have hbz := Aside0.mk hb
  have hbxz := Aside0.mk hbx
  have hszz := Aside0.mk hsz
  clear hb hbx hsz
  generalize u8.alloc (Obj.cells #[.int .i64 g1, .slice Ag g2.length cg] 41) = u9 at HB hbz hbxz hszz X1 Rw X5 Sx1 X7 Rg ⊢
  have X9 := hbxz
  have z9 := hszz
  clear hbz hbxz hszz
  refine (laws_eqIntsResult.calls k g1 _ cg g2 s1 _ cw s2 true _ (Kd.R_reads' Rg.out).2.2 (Kd.R_reads' Rg.out).2.1 (Kd.R_reads' Rw.out).2.2 (Kd.R_reads' Rw.out).2.1 HQ1.out).mono ?_
  rintro e u10 ⟨rfl, hb⟩
  have hsz := hb.size
  replace HB := Aside0.mk (show Below w.heap.size w u10 from below_step HB.out hb)
  replace X1 := Aside0.mk (keepB hb X1.out)
  replace Rw := Aside0.mk (Kd.R_below Rw.out hb)
  replace X5 := Aside0.mk (keepB hb X5.out)
  replace Sx1 := Aside0.mk (Kd.S_below Sx1.out hb)
  replace X7 := Aside0.mk (keepB hb X7.out)
  replace Rg := Aside0.mk (Kd.R_below Rg.out hb)
  replace X9 := Aside0.mk (keepB hb X9.out)
  have z10 := Aside0.mk hsz
  clear hsz
  have cX1_0 : u10.cell? ⟨w.heap.size, 0, none⟩ = some (.int .i64 a0_0) := (blk_cell X1.out 0).trans rfl
  have cX1_1 : u10.cell? ⟨w.heap.size, 1, none⟩ = some (.slice A0_1 l0_1.length c0_1) := (blk_cell X1.out 1).trans rfl
  have lX1 : w.heap.size < u10.heap.size := blk_lt X1.out
  have nX1 : w.heap.size ≠ u10.heap.size := Nat.ne_of_lt (blk_lt X1.out)
  have cX5_0 : u10.cell? ⟨u4.heap.size, 0, none⟩ = some (.int .i64 s1) := (blk_cell X5.out 0).trans rfl
  have cX5_1 : u10.cell? ⟨u4.heap.size, 1, none⟩ = some (.slice Aw s2.length cw) := (blk_cell X5.out 1).trans rfl
  have lX5 : u4.heap.size < u10.heap.size := blk_lt X5.out
  have nX5 : u4.heap.size ≠ u10.heap.size := Nat.ne_of_lt (blk_lt X5.out)
  have cX7_0 : u10.cell? ⟨u6.heap.size, 0, none⟩ = some (.int .i64 x0) := (blk_cell X7.out 0).trans rfl
  have cX7_1 : u10.cell? ⟨u6.heap.size, 1, none⟩ = some (.slice Ax1 x1.length cx1) := (blk_cell X7.out 1).trans rfl
  have lX7 : u6.heap.size < u10.heap.size := blk_lt X7.out
  have nX7 : u6.heap.size ≠ u10.heap.size := Nat.ne_of_lt (blk_lt X7.out)
  have cX9_0 : u10.cell? ⟨u8.heap.size, 0, none⟩ = some (.int .i64 g1) := (blk_cell X9.out 0).trans rfl
  have cX9_1 : u10.cell? ⟨u8.heap.size, 1, none⟩ = some (.slice Ag g2.length cg) := (blk_cell X9.out 1).trans rfl
  have lX9 : u8.heap.size < u10.heap.size := blk_lt X9.out
  have nX9 : u8.heap.size ≠ u10.heap.size := Nat.ne_of_lt (blk_lt X9.out)
  go_wp2_with fail
  clear cX1_0 cX1_1 lX1 nX1 cX5_0 cX5_1 lX5 nX5 cX7_0 cX7_1 lX7 nX7 cX9_0 cX9_1 lX9 nX9
  refine start_ (n := 5) (S := fun W_ => W_.cell? ⟨u6.heap.size, 0, none⟩ = some (.int .i64 x0) ∧ W_.cell? ⟨u6.heap.size, 1, none⟩ = some (.slice Ax1 x1.length cx1) ∧ W_.cell? ⟨w.heap.size, 0, none⟩ = some (.int .i64 a0_0) ∧ W_.cell? ⟨w.heap.size, 1, none⟩ = some (.slice A0_1 l0_1.length c0_1)) (ds := []) #[false, false, false, false, false] (by kernel_rfl) rfl rfl ⟨(blk_cell X7.out 0).trans rfl, (blk_cell X7.out 1).trans rfl, (blk_cell X1.out 0).trans rfl, (blk_cell X1.out 1).trans rfl⟩ (fun hHeld => ?_)
  refine zt 0 35 ?_; refine zt 1 36 ?_
  refine one_ (i := 2) (N := some 37) #[true, true, true, false, false] rfl rfl (by kernel_rfl) (by decide) (fun K hK => ?_)
  refine goes_ Try.func11 (by kernel_rfl) rfl #[.agg #[.int .i64 a0_0, .slice A0_1 l0_1.length c0_1]] (by rfl) rfl rfl zm ?_
  with_reducible refine (laws_toTree.calls k a0_0 _ c0_1 l0_1 x0 x1 _ (Kd.C_drew (Kd.C_below HR1.out HB.out)) HC1.out HX.out).mono ?_
  rintro e ua ⟨vz1, rfl, hs1, hb⟩
  refine ⟨_, rfl, ?_⟩
  obtain ⟨Az1, cz1, e1⟩ := Kd.S_slice hs1
  subst e1
  have Sz1 := Aside0.mk hs1
  clear hs1
  replace hb : Below u10.heap.size u10 ua := below_step (below_drew (Below.refl _ _)) hb
  replace HB := Aside0.mk (show Below w.heap.size w ua from below_step HB.out hb)
  have hsz := Aside0.mk hb.size
  replace X1 := Aside0.mk (keepB hb X1.out)
  replace Rw := Aside0.mk (Kd.R_below Rw.out hb)
  replace X5 := Aside0.mk (keepB hb X5.out)
  replace Sx1 := Aside0.mk (Kd.S_below Sx1.out hb)
  replace X7 := Aside0.mk (keepB hb X7.out)
  replace Rg := Aside0.mk (Kd.R_below Rg.out hb)
  replace X9 := Aside0.mk (keepB hb X9.out)
  have z11 := hsz
  clear hsz
  refine hK.out _ _ ⟨(blk_cell X7.out 0).trans rfl, (blk_cell X7.out 1).trans rfl, (blk_cell X1.out 0).trans rfl, (blk_cell X1.out 1).trans rfl⟩ (fun hHeld => ?_)
  clear hK K
  refine norm_ (a' := ?_) ?_ ?_
  rotate_left
  ·show Act.put _ (some 37) _ = _
   simp only [Act.put, List.setIfInBounds_toArray, List.set_cons_zero, List.set_cons_succ, i64_w, i32_w]
   rfl
  refine one_ (i := 3) (N := some 38) #[true, true, true, true, false] rfl rfl (by kernel_rfl) (by decide) (fun K hK => ?_)
  refine goes_ Try.func13 (by kernel_rfl) rfl #[.agg #[.int .i64 x0, .slice Ax1 x1.length cx1], .agg #[.int .i64 x0, .slice Az1 x1.length cz1]] (by rfl) rfl rfl zm ?_
  with_reducible refine (laws_eqTree.calls k x0 _ cx1 x1 x0 _ cz1 x1 true _ (Kd.S_reads' Sx1.out).2.2 (Kd.S_reads' Sx1.out).2.1 (Kd.S_reads' Sz1.out).2.2 (Kd.S_reads' Sz1.out).2.1 HQ2.out).mono ?_
  rintro e ub ⟨rfl, hb⟩
  refine ⟨_, rfl, ?_⟩
  replace HB := Aside0.mk (show Below w.heap.size w ub from below_step HB.out hb)
  have hsz := Aside0.mk hb.size
  replace X1 := Aside0.mk (keepB hb X1.out)
  replace Rw := Aside0.mk (Kd.R_below Rw.out hb)
  replace X5 := Aside0.mk (keepB hb X5.out)
  replace Sx1 := Aside0.mk (Kd.S_below Sx1.out hb)
  replace X7 := Aside0.mk (keepB hb X7.out)
  replace Rg := Aside0.mk (Kd.R_below Rg.out hb)
  replace X9 := Aside0.mk (keepB hb X9.out)
  have z12 := hsz
  clear hsz
  refine hK.out _ _ ⟨(blk_cell X7.out 0).trans rfl, (blk_cell X7.out 1).trans rfl, (blk_cell X1.out 0).trans rfl, (blk_cell X1.out 1).trans rfl⟩ (fun hHeld => ?_)
  clear hK K
  refine norm_ (a' := ?_) ?_ ?_
  rotate_left
  ·show Act.put _ (some 38) _ = _
   simp only [Act.put, List.setIfInBounds_toArray, List.set_cons_zero, List.set_cons_succ, i64_w, i32_w]
   rfl
  refine zp 4 39 ?_
  refine done_ (by kernel_rfl) ?_
  have cX7_0 : ub.cell? ⟨u6.heap.size, 0, none⟩ = some (.int .i64 x0) := (blk_cell X7.out 0).trans rfl
  have cX7_1 : ub.cell? ⟨u6.heap.size, 1, none⟩ = some (.slice Ax1 x1.length cx1) := (blk_cell X7.out 1).trans rfl
  have lX7 : u6.heap.size < ub.heap.size := blk_lt X7.out
  have nX7 : u6.heap.size ≠ ub.heap.size := Nat.ne_of_lt (blk_lt X7.out)
  have cX9_0 : ub.cell? ⟨u8.heap.size, 0, none⟩ = some (.int .i64 g1) := (blk_cell X9.out 0).trans rfl
  have cX9_1 : ub.cell? ⟨u8.heap.size, 1, none⟩ = some (.slice Ag g2.length cg) := (blk_cell X9.out 1).trans rfl
  have lX9 : u8.heap.size < ub.heap.size := blk_lt X9.out
  have nX9 : u8.heap.size ≠ ub.heap.size := Nat.ne_of_lt (blk_lt X9.out)
  have cX5_0 : ub.cell? ⟨u4.heap.size, 0, none⟩ = some (.int .i64 s1) := (blk_cell X5.out 0).trans rfl
  have cX5_1 : ub.cell? ⟨u4.heap.size, 1, none⟩ = some (.slice Aw s2.length cw) := (blk_cell X5.out 1).trans rfl
  have lX5 : u4.heap.size < ub.heap.size := blk_lt X5.out
  have nX5 : u4.heap.size ≠ ub.heap.size := Nat.ne_of_lt (blk_lt X5.out)
  have cX1_0 : ub.cell? ⟨w.heap.size, 0, none⟩ = some (.int .i64 a0_0) := (blk_cell X1.out 0).trans rfl
  have cX1_1 : ub.cell? ⟨w.heap.size, 1, none⟩ = some (.slice A0_1 l0_1.length c0_1) := (blk_cell X1.out 1).trans rfl
  have lX1 : w.heap.size < ub.heap.size := blk_lt X1.out
  have nX1 : w.heap.size ≠ ub.heap.size := Nat.ne_of_lt (blk_lt X1.out)
  go_wp2_with fail
  clear cX7_0 cX7_1 lX7 nX7 cX9_0 cX9_1 lX9 nX9 cX5_0 cX5_1 lX5 nX5 cX1_0 cX1_1 lX1 nX1
  have hz0 := Aside0.mk HB.out.size
  refine (laws_markTree.calls k x0 (fun k_ => (u5.heap.size ≤ k_ ∧ k_ < u6.heap.size) ∧ ∃ q_, q_ ∈ [58, 2, 2] ∧ ∃ cells, u6.heap[k_]? = some (.cells cells q_ (0, 0))) _ x1 1 m1 m2 w _ HB.out Sx1.out HM.out).mono ?_
  rintro e u11 ⟨rfl, -, hB, hk⟩
  clear Sx1
  replace HB := Aside0.mk hB
  have hsz := Aside0.mk hk.1
  replace X1 := Aside0.mk ((hk.2 _ (blk_lt X1.out) (fun hp => by have h1 := hp.1; have qz1_ := z1.out; have qz2_ := z2.out; have qz3_ := z3.out; have qz4_ := z4.out; have qz5_ := z5.out; have qz6_ := z6.out; have qz7_ := z7.out; have qz8_ := z8.out; have qz9_ := z9.out; have qz10_ := z10.out; have qz11_ := z11.out; have qz12_ := z12.out; omega)).trans X1.out)
  replace Rw := Aside0.mk (Kd.R_step Rw.out (fun k_ ho_ hlt_ => hk.2 k_ hlt_ (fun hp => by have h1 := hp.1; have h2 := ho_; have qz1_ := z1.out; have qz2_ := z2.out; have qz3_ := z3.out; have qz4_ := z4.out; have qz5_ := z5.out; have qz6_ := z6.out; have qz7_ := z7.out; have qz8_ := z8.out; have qz9_ := z9.out; have qz10_ := z10.out; have qz11_ := z11.out; have qz12_ := z12.out; omega)))
  replace X5 := Aside0.mk ((hk.2 _ (blk_lt X5.out) (fun hp => by have h1 := hp.1; have qz1_ := z1.out; have qz2_ := z2.out; have qz3_ := z3.out; have qz4_ := z4.out; have qz5_ := z5.out; have qz6_ := z6.out; have qz7_ := z7.out; have qz8_ := z8.out; have qz9_ := z9.out; have qz10_ := z10.out; have qz11_ := z11.out; have qz12_ := z12.out; omega)).trans X5.out)
  replace X7 := Aside0.mk ((hk.2 _ (blk_lt X7.out) (fun hp => by have h1 := hp.1; have qz1_ := z1.out; have qz2_ := z2.out; have qz3_ := z3.out; have qz4_ := z4.out; have qz5_ := z5.out; have qz6_ := z6.out; have qz7_ := z7.out; have qz8_ := z8.out; have qz9_ := z9.out; have qz10_ := z10.out; have qz11_ := z11.out; have qz12_ := z12.out; omega)).trans X7.out)
  replace Rg := Aside0.mk (Kd.R_step Rg.out (fun k_ ho_ hlt_ => hk.2 k_ hlt_ (fun hp => by have h1 := hp.1; have h2 := ho_; have qz1_ := z1.out; have qz2_ := z2.out; have qz3_ := z3.out; have qz4_ := z4.out; have qz5_ := z5.out; have qz6_ := z6.out; have qz7_ := z7.out; have qz8_ := z8.out; have qz9_ := z9.out; have qz10_ := z10.out; have qz11_ := z11.out; have qz12_ := z12.out; omega)))
  replace X9 := Aside0.mk ((hk.2 _ (blk_lt X9.out) (fun hp => by have h1 := hp.1; have qz1_ := z1.out; have qz2_ := z2.out; have qz3_ := z3.out; have qz4_ := z4.out; have qz5_ := z5.out; have qz6_ := z6.out; have qz7_ := z7.out; have qz8_ := z8.out; have qz9_ := z9.out; have qz10_ := z10.out; have qz11_ := z11.out; have qz12_ := z12.out; omega)).trans X9.out)
  have z13 := hsz
  clear hsz hB hk hz0
  have cX9_0 : u11.cell? ⟨u8.heap.size, 0, none⟩ = some (.int .i64 g1) := (blk_cell X9.out 0).trans rfl
  have cX9_1 : u11.cell? ⟨u8.heap.size, 1, none⟩ = some (.slice Ag g2.length cg) := (blk_cell X9.out 1).trans rfl
  have lX9 : u8.heap.size < u11.heap.size := blk_lt X9.out
  have nX9 : u8.heap.size ≠ u11.heap.size := Nat.ne_of_lt (blk_lt X9.out)
  have cX5_0 : u11.cell? ⟨u4.heap.size, 0, none⟩ = some (.int .i64 s1) := (blk_cell X5.out 0).trans rfl
  have cX5_1 : u11.cell? ⟨u4.heap.size, 1, none⟩ = some (.slice Aw s2.length cw) := (blk_cell X5.out 1).trans rfl
  have lX5 : u4.heap.size < u11.heap.size := blk_lt X5.out
  have nX5 : u4.heap.size ≠ u11.heap.size := Nat.ne_of_lt (blk_lt X5.out)
  have cX1_0 : u11.cell? ⟨w.heap.size, 0, none⟩ = some (.int .i64 a0_0) := (blk_cell X1.out 0).trans rfl
  have cX1_1 : u11.cell? ⟨w.heap.size, 1, none⟩ = some (.slice A0_1 l0_1.length c0_1) := (blk_cell X1.out 1).trans rfl
  have lX1 : w.heap.size < u11.heap.size := blk_lt X1.out
  have nX1 : w.heap.size ≠ u11.heap.size := Nat.ne_of_lt (blk_lt X1.out)
  go_wp2_with fail
  clear cX9_0 cX9_1 lX9 nX9 cX5_0 cX5_1 lX5 nX5 cX1_0 cX1_1 lX1 nX1
  refine (laws_eqIntsResult.calls k g1 _ cg g2 s1 _ cw s2 true _ (Kd.R_reads' Rg.out).2.2 (Kd.R_reads' Rg.out).2.1 (Kd.R_reads' Rw.out).2.2 (Kd.R_reads' Rw.out).2.1 HQ1.out).mono ?_
  rintro e u12 ⟨rfl, hb⟩
  have hsz := hb.size
  replace HB := Aside0.mk (show Below w.heap.size w u12 from below_step HB.out hb)
  replace X1 := Aside0.mk (keepB hb X1.out)
  replace Rw := Aside0.mk (Kd.R_below Rw.out hb)
  replace X5 := Aside0.mk (keepB hb X5.out)
  replace X7 := Aside0.mk (keepB hb X7.out)
  replace Rg := Aside0.mk (Kd.R_below Rg.out hb)
  replace X9 := Aside0.mk (keepB hb X9.out)
  have z14 := Aside0.mk hsz
  clear hsz
  have cX9_0 : u12.cell? ⟨u8.heap.size, 0, none⟩ = some (.int .i64 g1) := (blk_cell X9.out 0).trans rfl
  have cX9_1 : u12.cell? ⟨u8.heap.size, 1, none⟩ = some (.slice Ag g2.length cg) := (blk_cell X9.out 1).trans rfl
  have lX9 : u8.heap.size < u12.heap.size := blk_lt X9.out
  have nX9 : u8.heap.size ≠ u12.heap.size := Nat.ne_of_lt (blk_lt X9.out)
  have cX5_0 : u12.cell? ⟨u4.heap.size, 0, none⟩ = some (.int .i64 s1) := (blk_cell X5.out 0).trans rfl
  have cX5_1 : u12.cell? ⟨u4.heap.size, 1, none⟩ = some (.slice Aw s2.length cw) := (blk_cell X5.out 1).trans rfl
  have lX5 : u4.heap.size < u12.heap.size := blk_lt X5.out
  have nX5 : u4.heap.size ≠ u12.heap.size := Nat.ne_of_lt (blk_lt X5.out)
  have cX1_0 : u12.cell? ⟨w.heap.size, 0, none⟩ = some (.int .i64 a0_0) := (blk_cell X1.out 0).trans rfl
  have cX1_1 : u12.cell? ⟨w.heap.size, 1, none⟩ = some (.slice A0_1 l0_1.length c0_1) := (blk_cell X1.out 1).trans rfl
  have lX1 : w.heap.size < u12.heap.size := blk_lt X1.out
  have nX1 : w.heap.size ≠ u12.heap.size := Nat.ne_of_lt (blk_lt X1.out)
  go_wp2_with fail
  clear cX9_0 cX9_1 lX9 nX9 cX5_0 cX5_1 lX5 nX5 cX1_0 cX1_1 lX1 nX1
  have hlo : w.heap.size ≤ u7.heap.size := by have hx_ := blk_lt X1.out; have qz1_ := z1.out; have qz2_ := z2.out; have qz3_ := z3.out; have qz4_ := z4.out; have qz5_ := z5.out; have qz6_ := z6.out; have qz7_ := z7.out; have qz8_ := z8.out; have qz9_ := z9.out; have qz10_ := z10.out; have qz11_ := z11.out; have qz12_ := z12.out; have qz13_ := z13.out; have qz14_ := z14.out; omega
  refine (laws_markIntsResult.calls k g1 (fun k_ => u7.heap.size ≤ k_ ∧ k_ < u8.heap.size) _ g2 1 q3 n2 w _ HB.out (Kd.R_lower Rg.out hlo) HN.out).mono ?_
  rintro e u13 ⟨rfl, hg2, hB, hk⟩
  clear Rg
  replace HB := Aside0.mk hB
  have hsz := Aside0.mk hk.1
  replace X1 := Aside0.mk ((hk.2 _ (blk_lt X1.out) (fun hp => by have h1 := hp; have qz1_ := z1.out; have qz2_ := z2.out; have qz3_ := z3.out; have qz4_ := z4.out; have qz5_ := z5.out; have qz6_ := z6.out; have qz7_ := z7.out; have qz8_ := z8.out; have qz9_ := z9.out; have qz10_ := z10.out; have qz11_ := z11.out; have qz12_ := z12.out; have qz13_ := z13.out; have qz14_ := z14.out; omega)).trans X1.out)
  replace Rw := Aside0.mk (Kd.R_step Rw.out (fun k_ ho_ hlt_ => hk.2 k_ hlt_ (fun hp => by have h1 := hp; have h2 := ho_; have qz1_ := z1.out; have qz2_ := z2.out; have qz3_ := z3.out; have qz4_ := z4.out; have qz5_ := z5.out; have qz6_ := z6.out; have qz7_ := z7.out; have qz8_ := z8.out; have qz9_ := z9.out; have qz10_ := z10.out; have qz11_ := z11.out; have qz12_ := z12.out; have qz13_ := z13.out; have qz14_ := z14.out; omega)))
  replace X5 := Aside0.mk ((hk.2 _ (blk_lt X5.out) (fun hp => by have h1 := hp; have qz1_ := z1.out; have qz2_ := z2.out; have qz3_ := z3.out; have qz4_ := z4.out; have qz5_ := z5.out; have qz6_ := z6.out; have qz7_ := z7.out; have qz8_ := z8.out; have qz9_ := z9.out; have qz10_ := z10.out; have qz11_ := z11.out; have qz12_ := z12.out; have qz13_ := z13.out; have qz14_ := z14.out; omega)).trans X5.out)
  replace X7 := Aside0.mk ((hk.2 _ (blk_lt X7.out) (fun hp => by have h1 := hp; have qz1_ := z1.out; have qz2_ := z2.out; have qz3_ := z3.out; have qz4_ := z4.out; have qz5_ := z5.out; have qz6_ := z6.out; have qz7_ := z7.out; have qz8_ := z8.out; have qz9_ := z9.out; have qz10_ := z10.out; have qz11_ := z11.out; have qz12_ := z12.out; have qz13_ := z13.out; have qz14_ := z14.out; omega)).trans X7.out)
  replace X9 := Aside0.mk ((hk.2 _ (blk_lt X9.out) (fun hp => by have h1 := hp; have qz1_ := z1.out; have qz2_ := z2.out; have qz3_ := z3.out; have qz4_ := z4.out; have qz5_ := z5.out; have qz6_ := z6.out; have qz7_ := z7.out; have qz8_ := z8.out; have qz9_ := z9.out; have qz10_ := z10.out; have qz11_ := z11.out; have qz12_ := z12.out; have qz13_ := z13.out; have qz14_ := z14.out; omega)).trans X9.out)
  have z15 := hsz
  clear hsz hB hk hlo
  obtain ⟨gl_, -, -⟩ := Kd.R_reads' hg2
  rw [gl_] at hg2
  have Rg := Aside0.mk hg2
  have GL := Aside0.mk gl_
  clear hg2 gl_
  have cX9_0 : u13.cell? ⟨u8.heap.size, 0, none⟩ = some (.int .i64 g1) := (blk_cell X9.out 0).trans rfl
  have cX9_1 : u13.cell? ⟨u8.heap.size, 1, none⟩ = some (.slice Ag g2.length cg) := (blk_cell X9.out 1).trans rfl
  have lX9 : u8.heap.size < u13.heap.size := blk_lt X9.out
  have nX9 : u8.heap.size ≠ u13.heap.size := Nat.ne_of_lt (blk_lt X9.out)
  have cX5_0 : u13.cell? ⟨u4.heap.size, 0, none⟩ = some (.int .i64 s1) := (blk_cell X5.out 0).trans rfl
  have cX5_1 : u13.cell? ⟨u4.heap.size, 1, none⟩ = some (.slice Aw s2.length cw) := (blk_cell X5.out 1).trans rfl
  have lX5 : u4.heap.size < u13.heap.size := blk_lt X5.out
  have nX5 : u4.heap.size ≠ u13.heap.size := Nat.ne_of_lt (blk_lt X5.out)
  have cX1_0 : u13.cell? ⟨w.heap.size, 0, none⟩ = some (.int .i64 a0_0) := (blk_cell X1.out 0).trans rfl
  have cX1_1 : u13.cell? ⟨w.heap.size, 1, none⟩ = some (.slice A0_1 l0_1.length c0_1) := (blk_cell X1.out 1).trans rfl
  have lX1 : w.heap.size < u13.heap.size := blk_lt X1.out
  have nX1 : w.heap.size ≠ u13.heap.size := Nat.ne_of_lt (blk_lt X1.out)
  go_wp2_with fail
  clear cX9_0 cX9_1 lX9 nX9 cX5_0 cX5_1 lX5 nX5 cX1_0 cX1_1 lX1 nX1
  rw [GL.out]
  refine (laws_heldIntsResult.calls k g1 _ cg n2 1 q3 _ (Kd.R_reads' Rg.out).2.2 (Kd.R_reads' Rg.out).2.1 HQ3.out).mono ?_
  rintro e u14 ⟨rfl, hb⟩
  have hsz := hb.size
  replace HB := Aside0.mk (show Below w.heap.size w u14 from below_step HB.out hb)
  replace X1 := Aside0.mk (keepB hb X1.out)
  replace Rw := Aside0.mk (Kd.R_below Rw.out hb)
  replace X5 := Aside0.mk (keepB hb X5.out)
  replace X7 := Aside0.mk (keepB hb X7.out)
  replace X9 := Aside0.mk (keepB hb X9.out)
  replace Rg := Aside0.mk (Kd.R_below Rg.out hb)
  have z16 := Aside0.mk hsz
  clear hsz
  have cX9_0 : u14.cell? ⟨u8.heap.size, 0, none⟩ = some (.int .i64 g1) := (blk_cell X9.out 0).trans rfl
  have cX9_1 : u14.cell? ⟨u8.heap.size, 1, none⟩ = some (.slice Ag g2.length cg) := (blk_cell X9.out 1).trans rfl
  have lX9 : u8.heap.size < u14.heap.size := blk_lt X9.out
  have nX9 : u8.heap.size ≠ u14.heap.size := Nat.ne_of_lt (blk_lt X9.out)
  have cX5_0 : u14.cell? ⟨u4.heap.size, 0, none⟩ = some (.int .i64 s1) := (blk_cell X5.out 0).trans rfl
  have cX5_1 : u14.cell? ⟨u4.heap.size, 1, none⟩ = some (.slice Aw s2.length cw) := (blk_cell X5.out 1).trans rfl
  have lX5 : u4.heap.size < u14.heap.size := blk_lt X5.out
  have nX5 : u4.heap.size ≠ u14.heap.size := Nat.ne_of_lt (blk_lt X5.out)
  have cX1_0 : u14.cell? ⟨w.heap.size, 0, none⟩ = some (.int .i64 a0_0) := (blk_cell X1.out 0).trans rfl
  have cX1_1 : u14.cell? ⟨w.heap.size, 1, none⟩ = some (.slice A0_1 l0_1.length c0_1) := (blk_cell X1.out 1).trans rfl
  have lX1 : w.heap.size < u14.heap.size := blk_lt X1.out
  have nX1 : w.heap.size ≠ u14.heap.size := Nat.ne_of_lt (blk_lt X1.out)
  go_wp2_with fail
  clear cX9_0 cX9_1 lX9 nX9 cX5_0 cX5_1 lX5 nX5 cX1_0 cX1_1 lX1 nX1
  have hlo := Aside0.mk HB.out.size
  refine (laws_toTree.calls k a0_0 _ c0_1 l0_1 x0 x1 _ (Kd.C_below HR1.out HB.out) HC1.out HX.out).mono ?_
  rintro e u15 ⟨vy1, rfl, hs1, hb⟩
  have hsz := hb.size
  replace HB := Aside0.mk (show Below w.heap.size w u15 from below_step HB.out hb)
  replace X1 := Aside0.mk (keepB hb X1.out)
  replace Rw := Aside0.mk (Kd.R_below Rw.out hb)
  replace X5 := Aside0.mk (keepB hb X5.out)
  replace X7 := Aside0.mk (keepB hb X7.out)
  replace X9 := Aside0.mk (keepB hb X9.out)
  replace Rg := Aside0.mk (Kd.R_below Rg.out hb)
  have z17 := Aside0.mk hsz
  clear hsz
  obtain ⟨Ay1, cy1, e1⟩ := Kd.S_slice hs1
  subst e1
  have Sy1 := Aside0.mk (show Kd.S k58 58 u15 u14.heap.size (fun _ => True) (.slice Ay1 x1.length cy1) x1 from hs1)
  clear hs1
  clear hlo
  have cX1_0 : u15.cell? ⟨w.heap.size, 0, none⟩ = some (.int .i64 a0_0) := (blk_cell X1.out 0).trans rfl
  have cX1_1 : u15.cell? ⟨w.heap.size, 1, none⟩ = some (.slice A0_1 l0_1.length c0_1) := (blk_cell X1.out 1).trans rfl
  have lX1 : w.heap.size < u15.heap.size := blk_lt X1.out
  have nX1 : w.heap.size ≠ u15.heap.size := Nat.ne_of_lt (blk_lt X1.out)
  have cX5_0 : u15.cell? ⟨u4.heap.size, 0, none⟩ = some (.int .i64 s1) := (blk_cell X5.out 0).trans rfl
  have cX5_1 : u15.cell? ⟨u4.heap.size, 1, none⟩ = some (.slice Aw s2.length cw) := (blk_cell X5.out 1).trans rfl
  have lX5 : u4.heap.size < u15.heap.size := blk_lt X5.out
  have nX5 : u4.heap.size ≠ u15.heap.size := Nat.ne_of_lt (blk_lt X5.out)
  have cX9_0 : u15.cell? ⟨u8.heap.size, 0, none⟩ = some (.int .i64 g1) := (blk_cell X9.out 0).trans rfl
  have cX9_1 : u15.cell? ⟨u8.heap.size, 1, none⟩ = some (.slice Ag g2.length cg) := (blk_cell X9.out 1).trans rfl
  have lX9 : u8.heap.size < u15.heap.size := blk_lt X9.out
  have nX9 : u8.heap.size ≠ u15.heap.size := Nat.ne_of_lt (blk_lt X9.out)
  go_wp2_with fail
  clear cX1_0 cX1_1 lX1 nX1 cX5_0 cX5_1 lX5 nX5 cX9_0 cX9_1 lX9 nX9
  refine (impl_KeysIn.calls k x0 _ cy1 x1 a1 a2 g1 g2 _ (Kd.S_reads' Sy1.out).2.2 (Kd.S_reads' Sy1.out).2.1 HG.out).mono ?_
  rintro e u16 ⟨vh, rfl, hr, hb⟩
  have hsz := hb.size
  replace HB := Aside0.mk (show Below w.heap.size w u16 from below_step HB.out hb)
  replace X1 := Aside0.mk (keepB hb X1.out)
  replace Rw := Aside0.mk (Kd.R_below Rw.out hb)
  replace X5 := Aside0.mk (keepB hb X5.out)
  replace X7 := Aside0.mk (keepB hb X7.out)
  replace X9 := Aside0.mk (keepB hb X9.out)
  replace Rg := Aside0.mk (Kd.R_below Rg.out hb)
  replace Sy1 := Aside0.mk (Kd.S_below Sy1.out hb)
  have z18 := Aside0.mk hsz
  clear hsz
  obtain ⟨Ah, ch, e1⟩ := Kd.R_slice hr
  subst e1
  have Rh := Aside0.mk (show Kd.R (Kd.int .i64) 2 u16 u15.heap.size (fun k_ => u15.heap.size ≤ k_ ∧ k_ < u16.heap.size) (.slice Ah g2.length ch) g2 from Kd.R_mono (Kd.R_bound hr) (fun k_ h_ => ⟨h_.2.1, h_.2.2.1⟩))
  clear hr
  clear Sy1
  have cX9_0 : u16.cell? ⟨u8.heap.size, 0, none⟩ = some (.int .i64 g1) := (blk_cell X9.out 0).trans rfl
  have cX9_1 : u16.cell? ⟨u8.heap.size, 1, none⟩ = some (.slice Ag g2.length cg) := (blk_cell X9.out 1).trans rfl
  have lX9 : u8.heap.size < u16.heap.size := blk_lt X9.out
  have nX9 : u8.heap.size ≠ u16.heap.size := Nat.ne_of_lt (blk_lt X9.out)
  have cX5_0 : u16.cell? ⟨u4.heap.size, 0, none⟩ = some (.int .i64 s1) := (blk_cell X5.out 0).trans rfl
  have cX5_1 : u16.cell? ⟨u4.heap.size, 1, none⟩ = some (.slice Aw s2.length cw) := (blk_cell X5.out 1).trans rfl
  have lX5 : u4.heap.size < u16.heap.size := blk_lt X5.out
  have nX5 : u4.heap.size ≠ u16.heap.size := Nat.ne_of_lt (blk_lt X5.out)
  have cX1_0 : u16.cell? ⟨w.heap.size, 0, none⟩ = some (.int .i64 a0_0) := (blk_cell X1.out 0).trans rfl
  have cX1_1 : u16.cell? ⟨w.heap.size, 1, none⟩ = some (.slice A0_1 l0_1.length c0_1) := (blk_cell X1.out 1).trans rfl
  have lX1 : w.heap.size < u16.heap.size := blk_lt X1.out
  have nX1 : w.heap.size ≠ u16.heap.size := Nat.ne_of_lt (blk_lt X1.out)
  go_wp2_with fail
  clear cX9_0 cX9_1 lX9 nX9 cX5_0 cX5_1 lX5 nX5 cX1_0 cX1_1 lX1 nX1
  have hb : Below u16.heap.size u16 (u16.alloc (Obj.cells #[.int .i64 g1, .slice Ah g2.length ch] 41)) := below_alloc (Below.refl _ _) _
  have hbx := blk_new u16 (Obj.cells #[.int .i64 g1, .slice Ah g2.length ch] 41)
  have hsz : u16.heap.size + 1 = (u16.alloc (Obj.cells #[.int .i64 g1, .slice Ah g2.length ch] 41)).heap.size := by simp
  replace HB := Aside0.mk (below_alloc HB.out (Obj.cells #[.int .i64 g1, .slice Ah g2.length ch] 41))
  replace X1 := Aside0.mk (keepB hb X1.out)
  replace Rw := Aside0.mk (Kd.R_below Rw.out hb)
  replace X5 := Aside0.mk (keepB hb X5.out)
  replace X7 := Aside0.mk (keepB hb X7.out)
  replace X9 := Aside0.mk (keepB hb X9.out)
  replace Rg := Aside0.mk (Kd.R_below Rg.out hb)
  replace Rh := Aside0.mk (Kd.R_below Rh.out hb)
  have hbz := Aside0.mk hb
  have hbxz := Aside0.mk hbx
  have hszz := Aside0.mk hsz
  clear hb hbx hsz
  generalize u16.alloc (Obj.cells #[.int .i64 g1, .slice Ah g2.length ch] 41) = u17 at HB hbz hbxz hszz X1 Rw X5 X7 X9 Rg Rh ⊢
  have X19 := hbxz
  have z19 := hszz
  clear hbz hbxz hszz
  refine (laws_eqIntsResult.calls k g1 _ ch g2 s1 _ cw s2 true _ (Kd.R_reads' Rh.out).2.2 (Kd.R_reads' Rh.out).2.1 (Kd.R_reads' Rw.out).2.2 (Kd.R_reads' Rw.out).2.1 HQ1.out).mono ?_
  rintro e u18 ⟨rfl, hb⟩
  have hsz := hb.size
  replace HB := Aside0.mk (show Below w.heap.size w u18 from below_step HB.out hb)
  replace X1 := Aside0.mk (keepB hb X1.out)
  replace Rw := Aside0.mk (Kd.R_below Rw.out hb)
  replace X5 := Aside0.mk (keepB hb X5.out)
  replace X7 := Aside0.mk (keepB hb X7.out)
  replace X9 := Aside0.mk (keepB hb X9.out)
  replace Rg := Aside0.mk (Kd.R_below Rg.out hb)
  replace Rh := Aside0.mk (Kd.R_below Rh.out hb)
  replace X19 := Aside0.mk (keepB hb X19.out)
  have z20 := Aside0.mk hsz
  clear hsz
  have cX9_0 : u18.cell? ⟨u8.heap.size, 0, none⟩ = some (.int .i64 g1) := (blk_cell X9.out 0).trans rfl
  have cX9_1 : u18.cell? ⟨u8.heap.size, 1, none⟩ = some (.slice Ag g2.length cg) := (blk_cell X9.out 1).trans rfl
  have lX9 : u8.heap.size < u18.heap.size := blk_lt X9.out
  have nX9 : u8.heap.size ≠ u18.heap.size := Nat.ne_of_lt (blk_lt X9.out)
  have cX5_0 : u18.cell? ⟨u4.heap.size, 0, none⟩ = some (.int .i64 s1) := (blk_cell X5.out 0).trans rfl
  have cX5_1 : u18.cell? ⟨u4.heap.size, 1, none⟩ = some (.slice Aw s2.length cw) := (blk_cell X5.out 1).trans rfl
  have lX5 : u4.heap.size < u18.heap.size := blk_lt X5.out
  have nX5 : u4.heap.size ≠ u18.heap.size := Nat.ne_of_lt (blk_lt X5.out)
  have cX1_0 : u18.cell? ⟨w.heap.size, 0, none⟩ = some (.int .i64 a0_0) := (blk_cell X1.out 0).trans rfl
  have cX1_1 : u18.cell? ⟨w.heap.size, 1, none⟩ = some (.slice A0_1 l0_1.length c0_1) := (blk_cell X1.out 1).trans rfl
  have lX1 : w.heap.size < u18.heap.size := blk_lt X1.out
  have nX1 : w.heap.size ≠ u18.heap.size := Nat.ne_of_lt (blk_lt X1.out)
  go_wp2_with fail
  clear cX9_0 cX9_1 lX9 nX9 cX5_0 cX5_1 lX5 nX5 cX1_0 cX1_1 lX1 nX1
  rw [GL.out]
  refine (laws_heldIntsResult.calls k g1 _ cg n2 1 q3 _ (Kd.R_reads' Rg.out).2.2 (Kd.R_reads' Rg.out).2.1 HQ3.out).mono ?_
  rintro e u19 ⟨rfl, hb⟩
  have hsz := hb.size
  replace HB := Aside0.mk (show Below w.heap.size w u19 from below_step HB.out hb)
  replace X1 := Aside0.mk (keepB hb X1.out)
  replace Rw := Aside0.mk (Kd.R_below Rw.out hb)
  replace X5 := Aside0.mk (keepB hb X5.out)
  replace X7 := Aside0.mk (keepB hb X7.out)
  replace X9 := Aside0.mk (keepB hb X9.out)
  replace Rg := Aside0.mk (Kd.R_below Rg.out hb)
  replace Rh := Aside0.mk (Kd.R_below Rh.out hb)
  replace X19 := Aside0.mk (keepB hb X19.out)
  have z21 := Aside0.mk hsz
  clear hsz
  go_wp2_with fail
  go_ret
  exact ⟨rfl, HB.out⟩


end Go.Proofs.Ytdhdgkonghefeaa.P
