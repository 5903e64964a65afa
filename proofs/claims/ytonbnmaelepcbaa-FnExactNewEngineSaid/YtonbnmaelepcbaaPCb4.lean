-- Printed by this session's own program over the kit's print (wip/tools/mp.py). Not trusted: Lean checks it.
import Derived.Test.YtonbnmaelepcbaaP0
import Derived.Test.YtonbnmaelepcbaaPCb0
import Derived.Test.YtonbnmaelepcbaaPCb1
import Derived.Test.YtonbnmaelepcbaaPCb2
import Derived.Test.YtonbnmaelepcbaaPCb3
import Derived.Test.YtonbnmaelepcbaaPCbefh0
import Derived.Test.YtonbnmaelepcbaaPCbh0
import Derived.Test.YtonbnmaelepcbaaPDb0
import Derived.Test.YtonbnmaelepcbaaLb
import Derived.Test.YtonbnmaelepcbaaLv
import Derived.IntWalk
import Derived.Shelf.Abstract
namespace Go.Proofs.Ytonbnmaelepcbaa.P
open Go.RowKit Go.Proofs.YtonbnmaelepcbaaW.PrintWords Go.Proofs.YtonbnmaelepcbaaW.PrintLast Go.Proofs.YtonbnmaelepcbaaW.PrintMore
attribute [local go_sem] max2_int min2_int max_two min_two max_three min_three max_four min_four   -- for this text's walks alone
set_option linter.unusedVariables false
set_option linter.unusedSimpArgs false

/-! ### laws_FnExactNewEngine: function 4 -/
-- PROOF --
-- NEEDS Derived.Test.YtonbnmaelepcbaaLb
-- NEEDS Derived.Test.YtonbnmaelepcbaaLv
-- NEEDS Derived.IntWalk
-- NEEDS Derived.Shelf.Abstract
set_option maxHeartbeats 16000000 in
set_option maxRecDepth 100000 in
theorem laws_FnExactNewEngine.calls (k : Nat) (A0 : Option Addr) (c0 : Nat) (l0 : List (S107)) (w : World) (hr0 : Kd.C k107 w A0 l0.length l0) (hc0 : l0.length ≤ c0) (h : laws_FnExactNewEngine.f k l0 = some true) :
  Calls Try.prog 4 #[.slice A0 l0.length c0] w fun e w' => e = .returned (.bool true) ∧ Below w.heap.size w w' := by
 have hu38 := Try.underlying38
 have hu31 := Try.underlying31
 have HR0 := Aside0.mk hr0
 have HC0 := Aside0.mk hc0
 clear hr0 hc0
 have HB := Aside0.mk (Below.refl w.heap.size w)
 unfold laws_FnExactNewEngine.f at h
 obtain ⟨t, ht, h⟩ := Option.bind_eq_some_iff.mp h
 have HT := Aside0.mk ht
 clear ht
 by_cases ct : t < 0
 ·skip
  have ct0 : decide (t < 0) = true := decide_eq_true ct
  have h := Aside0.mk h
  go_enter Try.func4, Try.ntmps4
  go_wp2_with fail
  refine (laws_szCellS.calls A0 c0 l0 1048576 t _ HR0.out HC0.out HT.out).mono ?_
  rintro e u1 ⟨rfl, hd⟩
  have hb : Below w.heap.size w u1 := by obtain ⟨n, hn⟩ := hd.out; rw [hn]; exact pw_below_drewN (Below.refl _ _) n
  clear hd
  replace HB := Aside0.mk hb
  have z1 := Aside0.mk hb.size
  clear hb
  go_wp2_with fail
  go_ret
  exact ⟨rfl, HB.out⟩
 ·skip
  rw [if_neg ct] at h
  obtain ⟨x, hx, h⟩ := Option.bind_eq_some_iff.mp h
  have HX := Aside0.mk hx
  obtain ⟨⟨s1, s2, s3, s4, s5, s6⟩, hs, h⟩ := Option.bind_eq_some_iff.mp h
  have HS := Aside0.mk hs
  obtain ⟨⟨g1, g2, g3, g4, g5, g6⟩, hg, h⟩ := Option.bind_eq_some_iff.mp h
  have HG := Aside0.mk hg
  obtain ⟨q1, hq1, h⟩ := Option.bind_eq_some_iff.mp h
  cases q1 with
  | false => exact absurd h (by simp)
  | true =>
  rw [if_pos rfl] at h
  have HQ1 := Aside0.mk hq1
  obtain ⟨q2, hq2, h⟩ := Option.bind_eq_some_iff.mp h
  cases q2 with
  | false => exact absurd h (by simp)
  | true =>
  rw [if_pos rfl] at h
  have HQ2 := Aside0.mk hq2
  obtain ⟨⟨m1, m2⟩, hm, h⟩ := Option.bind_eq_some_iff.mp h
  have HM := Aside0.mk hm
  by_cases cm : m1 < 0
  ·exact absurd h (by rw [if_pos cm]; decide)
  rw [if_neg cm] at h
  obtain ⟨⟨n1, n2, n3⟩, hn, h⟩ := Option.bind_eq_some_iff.mp h
  have HN := Aside0.mk hn
  obtain ⟨q3, hq3, h⟩ := Option.bind_eq_some_iff.mp h
  have HQ3 := Aside0.mk hq3
  by_cases cq : q3 < 0
  ·exact absurd h (by rw [if_pos cq]; decide)
  rw [if_neg cq] at h
  have cn : q3 = n1 := Decidable.byContradiction fun c => by rw [if_neg c] at h; simp at h
  subst cn
  clear h hx hs hg hq1 hq2 hm hn hq3
  have h : True := trivial
  have cm0 : decide (m1 < 0) = false := decide_eq_false cm
  have cq0 : decide (q3 < 0) = false := decide_eq_false cq
  have ct0 : decide (t < 0) = false := decide_eq_false ct
  have h := Aside0.mk h
  go_enter Try.func4, Try.ntmps4
  go_wp2_with fail
  refine (laws_szCellS.calls A0 c0 l0 1048576 t _ HR0.out HC0.out HT.out).mono ?_
  rintro e u1 ⟨rfl, hd⟩
  have hb : Below w.heap.size w u1 := by obtain ⟨n, hn⟩ := hd.out; rw [hn]; exact pw_below_drewN (Below.refl _ _) n
  clear hd
  replace HB := Aside0.mk hb
  have z1 := Aside0.mk hb.size
  clear hb
  go_wp2_with fail
  refine (laws_toCellS.calls k _ c0 l0 x _ (Kd.C_below HR0.out HB.out) HC0.out HX.out).mono ?_
  rintro e u2 ⟨vy, rfl, hr, hb⟩
  have hsz := hb.size
  replace HB := Aside0.mk (show Below w.heap.size w u2 from below_step HB.out hb)
  have z2 := Aside0.mk hsz
  clear hsz
  obtain ⟨Ay, cy, e1⟩ := Kd.R_slice hr
  subst e1
  have Ry := Aside0.mk (show Kd.R k105 105 u2 u1.heap.size (fun k_ => u1.heap.size ≤ k_ ∧ k_ < u2.heap.size) (.slice Ay x.length cy) x from Kd.R_mono (Kd.R_bound hr) (fun k_ h_ => ⟨h_.2.1, h_.2.2.1⟩))
  clear hr
  go_wp2_with fail
  refine (spec_NewEngine.calls k _ cy x s1 s2 s3 s4 s5 s6 _ (Kd.R_reads' Ry.out).2.2 (Kd.R_reads' Ry.out).2.1 HS.out).mono ?_
  rintro e u3 ⟨v4, v5, rfl, h4, h5, hb⟩
  have hsz := hb.size
  replace HB := Aside0.mk (show Below w.heap.size w u3 from below_step HB.out hb)
  replace Ry := Aside0.mk (Kd.R_below Ry.out hb)
  have z3 := Aside0.mk hsz
  clear hsz
  obtain ⟨Aw5, cw5, e1⟩ := Kd.S_slice h4
  subst e1
  have Sw5 := Aside0.mk (show Kd.S k83 83 u3 u2.heap.size (fun k_ => (u2.heap.size ≤ k_ ∧ k_ < u3.heap.size) ∧ ∃ q_, q_ ∈ [83, 96] ∧ ∃ cells, u3.heap[k_]? = some (.cells cells q_ (0, 0))) (.slice Aw5 s5.length cw5) s5 from Kd.S_mono (Kd.S_bound h4) (fun k_ h_ => ⟨⟨h_.2.1, h_.2.2.1⟩, h_.2.2.2⟩))
  clear h4
  obtain ⟨Aw6, cw6, e1⟩ := Kd.S_slice h5
  subst e1
  have Sw6 := Aside0.mk (show Kd.S k87 87 u3 u2.heap.size (fun k_ => (u2.heap.size ≤ k_ ∧ k_ < u3.heap.size) ∧ ∃ q_, q_ ∈ [87, 90] ∧ ∃ cells, u3.heap[k_]? = some (.cells cells q_ (0, 0))) (.slice Aw6 s6.length cw6) s6 from Kd.S_mono (Kd.S_bound h5) (fun k_ h_ => ⟨⟨h_.2.1, h_.2.2.1⟩, h_.2.2.2⟩))
  clear h5
  clear Ry
  go_wp2_with fail
  have hb : Below u3.heap.size u3 (u3.alloc (Obj.cells #[.int .i64 s1, .int .i64 s2, .int .i64 s3, .int .i64 s4, .slice Aw5 s5.length cw5, .slice Aw6 s6.length cw6] 38)) := below_alloc (Below.refl _ _) _
  have hbx := blk_new u3 (Obj.cells #[.int .i64 s1, .int .i64 s2, .int .i64 s3, .int .i64 s4, .slice Aw5 s5.length cw5, .slice Aw6 s6.length cw6] 38)
  have hsz : u3.heap.size + 1 = (u3.alloc (Obj.cells #[.int .i64 s1, .int .i64 s2, .int .i64 s3, .int .i64 s4, .slice Aw5 s5.length cw5, .slice Aw6 s6.length cw6] 38)).heap.size := by simp
  replace HB := Aside0.mk (below_alloc HB.out (Obj.cells #[.int .i64 s1, .int .i64 s2, .int .i64 s3, .int .i64 s4, .slice Aw5 s5.length cw5, .slice Aw6 s6.length cw6] 38))
  replace Sw5 := Aside0.mk (Kd.S_below Sw5.out hb)
  replace Sw6 := Aside0.mk (Kd.S_below Sw6.out hb)
  have hbz := Aside0.mk hb
  have hbxz := Aside0.mk hbx
  have hszz := Aside0.mk hsz
  clear hb hbx hsz
  generalize u3.alloc (Obj.cells #[.int .i64 s1, .int .i64 s2, .int .i64 s3, .int .i64 s4, .slice Aw5 s5.length cw5, .slice Aw6 s6.length cw6] 38) = u4 at HB hbz hbxz hszz Sw5 Sw6 ⊢
  have X4 := hbxz
  have z4 := hszz
  clear hbz hbxz hszz
  refine (laws_toCellS.calls k _ c0 l0 x _ (Kd.C_below HR0.out HB.out) HC0.out HX.out).mono ?_
  rintro e u5 ⟨vx, rfl, hr, hb⟩
  have hsz := hb.size
  replace HB := Aside0.mk (show Below w.heap.size w u5 from below_step HB.out hb)
  replace Sw5 := Aside0.mk (Kd.S_below Sw5.out hb)
  replace Sw6 := Aside0.mk (Kd.S_below Sw6.out hb)
  replace X4 := Aside0.mk (keepN hb X4.out)
  have z5 := Aside0.mk hsz
  clear hsz
  obtain ⟨Ax, cx, e1⟩ := Kd.R_slice hr
  subst e1
  have Rx := Aside0.mk (show Kd.R k105 105 u5 u4.heap.size (fun k_ => u4.heap.size ≤ k_ ∧ k_ < u5.heap.size) (.slice Ax x.length cx) x from Kd.R_mono (Kd.R_bound hr) (fun k_ h_ => ⟨h_.2.1, h_.2.2.1⟩))
  clear hr
  go_wp2_with fail
  refine (impl_NewEngine.calls k _ cx x g1 g2 g3 g4 g5 g6 _ (Kd.R_reads' Rx.out).2.2 (Kd.R_reads' Rx.out).2.1 HG.out).mono ?_
  rintro e u6 ⟨v4, v5, rfl, h4, h5, hb⟩
  have hsz := hb.size
  replace HB := Aside0.mk (show Below w.heap.size w u6 from below_step HB.out hb)
  replace Sw5 := Aside0.mk (Kd.S_below Sw5.out hb)
  replace Sw6 := Aside0.mk (Kd.S_below Sw6.out hb)
  replace X4 := Aside0.mk (keepN hb X4.out)
  replace Rx := Aside0.mk (Kd.R_below Rx.out hb)
  have z6 := Aside0.mk hsz
  clear hsz
  obtain ⟨Ag5, cg5, e1⟩ := Kd.S_slice h4
  subst e1
  have Sg5 := Aside0.mk (show Kd.S k83 83 u6 u5.heap.size (fun k_ => (u5.heap.size ≤ k_ ∧ k_ < u6.heap.size) ∧ ∃ q_, q_ ∈ [83, 96] ∧ ∃ cells, u6.heap[k_]? = some (.cells cells q_ (0, 0))) (.slice Ag5 g5.length cg5) g5 from Kd.S_mono (Kd.S_bound h4) (fun k_ h_ => ⟨⟨h_.2.1, h_.2.2.1⟩, h_.2.2.2⟩))
  clear h4
  obtain ⟨Ag6, cg6, e1⟩ := Kd.S_slice h5
  subst e1
  have Sg6 := Aside0.mk (show Kd.S k87 87 u6 u5.heap.size (fun k_ => (u5.heap.size ≤ k_ ∧ k_ < u6.heap.size) ∧ ∃ q_, q_ ∈ [87, 90] ∧ ∃ cells, u6.heap[k_]? = some (.cells cells q_ (0, 0))) (.slice Ag6 g6.length cg6) g6 from Kd.S_mono (Kd.S_bound h5) (fun k_ h_ => ⟨⟨h_.2.1, h_.2.2.1⟩, h_.2.2.2⟩))
  clear h5
  have cX4_0 : u6.cell? ⟨u3.heap.size, 0, none⟩ = some (.int .i64 s1) := (blk_cell X4.out 0).trans rfl
  have cX4_1 : u6.cell? ⟨u3.heap.size, 1, none⟩ = some (.int .i64 s2) := (blk_cell X4.out 1).trans rfl
  have cX4_2 : u6.cell? ⟨u3.heap.size, 2, none⟩ = some (.int .i64 s3) := (blk_cell X4.out 2).trans rfl
  have cX4_3 : u6.cell? ⟨u3.heap.size, 3, none⟩ = some (.int .i64 s4) := (blk_cell X4.out 3).trans rfl
  have cX4_4 : u6.cell? ⟨u3.heap.size, 4, none⟩ = some (.slice Aw5 s5.length cw5) := (blk_cell X4.out 4).trans rfl
  have cX4_5 : u6.cell? ⟨u3.heap.size, 5, none⟩ = some (.slice Aw6 s6.length cw6) := (blk_cell X4.out 5).trans rfl
  have lX4 : u3.heap.size < u6.heap.size := blk_lt X4.out
  have nX4 : u3.heap.size ≠ u6.heap.size := Nat.ne_of_lt (blk_lt X4.out)
  go_wp2_with fail
  clear cX4_0 cX4_1 cX4_2 cX4_3 cX4_4 cX4_5 lX4 nX4
  have hb : Below u6.heap.size u6 (u6.alloc (Obj.cells #[.int .i64 g1, .int .i64 g2, .int .i64 g3, .int .i64 g4, .slice Ag5 g5.length cg5, .slice Ag6 g6.length cg6] 38)) := below_alloc (Below.refl _ _) _
  have hbx := blk_new u6 (Obj.cells #[.int .i64 g1, .int .i64 g2, .int .i64 g3, .int .i64 g4, .slice Ag5 g5.length cg5, .slice Ag6 g6.length cg6] 38)
  have hsz : u6.heap.size + 1 = (u6.alloc (Obj.cells #[.int .i64 g1, .int .i64 g2, .int .i64 g3, .int .i64 g4, .slice Ag5 g5.length cg5, .slice Ag6 g6.length cg6] 38)).heap.size := by simp
  replace HB := Aside0.mk (below_alloc HB.out (Obj.cells #[.int .i64 g1, .int .i64 g2, .int .i64 g3, .int .i64 g4, .slice Ag5 g5.length cg5, .slice Ag6 g6.length cg6] 38))
  replace Sw5 := Aside0.mk (Kd.S_below Sw5.out hb)
  replace Sw6 := Aside0.mk (Kd.S_below Sw6.out hb)
  replace X4 := Aside0.mk (keepN hb X4.out)
  replace Rx := Aside0.mk (Kd.R_below Rx.out hb)
  replace Sg5 := Aside0.mk (Kd.S_below Sg5.out hb)
  replace Sg6 := Aside0.mk (Kd.S_below Sg6.out hb)
  have hbz := Aside0.mk hb
  have hbxz := Aside0.mk hbx
  have hszz := Aside0.mk hsz
  clear hb hbx hsz
  generalize u6.alloc (Obj.cells #[.int .i64 g1, .int .i64 g2, .int .i64 g3, .int .i64 g4, .slice Ag5 g5.length cg5, .slice Ag6 g6.length cg6] 38) = u7 at HB hbz hbxz hszz Sw5 Sw6 X4 Rx Sg5 Sg6 ⊢
  have X7 := hbxz
  have z7 := hszz
  clear hbz hbxz hszz
  refine (laws_eqEngineResult.calls k g1 g2 g3 g4 _ cg5 g5 _ cg6 g6 s1 s2 s3 s4 _ cw5 s5 _ cw6 s6 true _ (Kd.S_reads' Sg5.out).2.2 (Kd.S_reads' Sg5.out).2.1 (Kd.S_reads' Sg6.out).2.2 (Kd.S_reads' Sg6.out).2.1 (Kd.S_reads' Sw5.out).2.2 (Kd.S_reads' Sw5.out).2.1 (Kd.S_reads' Sw6.out).2.2 (Kd.S_reads' Sw6.out).2.1 HQ1.out).mono ?_
  rintro e u8 ⟨rfl, hb⟩
  have hsz := hb.size
  replace HB := Aside0.mk (show Below w.heap.size w u8 from below_step HB.out hb)
  replace Sw5 := Aside0.mk (Kd.S_below Sw5.out hb)
  replace Sw6 := Aside0.mk (Kd.S_below Sw6.out hb)
  replace X4 := Aside0.mk (keepN hb X4.out)
  replace Rx := Aside0.mk (Kd.R_below Rx.out hb)
  replace Sg5 := Aside0.mk (Kd.S_below Sg5.out hb)
  replace Sg6 := Aside0.mk (Kd.S_below Sg6.out hb)
  replace X7 := Aside0.mk (keepN hb X7.out)
  have z8 := Aside0.mk hsz
  clear hsz
  go_wp2_with fail
  refine (laws_toCellS.calls k _ c0 l0 x _ (Kd.C_below HR0.out HB.out) HC0.out HX.out).mono ?_
  rintro e u9 ⟨vz, rfl, hr, hb⟩
  have hsz := hb.size
  replace HB := Aside0.mk (show Below w.heap.size w u9 from below_step HB.out hb)
  replace Sw5 := Aside0.mk (Kd.S_below Sw5.out hb)
  replace Sw6 := Aside0.mk (Kd.S_below Sw6.out hb)
  replace X4 := Aside0.mk (keepN hb X4.out)
  replace Rx := Aside0.mk (Kd.R_below Rx.out hb)
  replace Sg5 := Aside0.mk (Kd.S_below Sg5.out hb)
  replace Sg6 := Aside0.mk (Kd.S_below Sg6.out hb)
  replace X7 := Aside0.mk (keepN hb X7.out)
  have z9 := Aside0.mk hsz
  clear hsz
  obtain ⟨Az, cz, e1⟩ := Kd.R_slice hr
  subst e1
  have Rz := Aside0.mk (show Kd.R k105 105 u9 u8.heap.size (fun k_ => u8.heap.size ≤ k_ ∧ k_ < u9.heap.size) (.slice Az x.length cz) x from Kd.R_mono (Kd.R_bound hr) (fun k_ h_ => ⟨h_.2.1, h_.2.2.1⟩))
  clear hr
  go_wp2_with fail
  refine (laws_eqCellS.calls k _ cx x _ cz x true _ (Kd.R_reads' Rx.out).2.2 (Kd.R_reads' Rx.out).2.1 (Kd.R_reads' Rz.out).2.2 (Kd.R_reads' Rz.out).2.1 HQ2.out).mono ?_
  rintro e u10 ⟨rfl, hb⟩
  have hsz := hb.size
  replace HB := Aside0.mk (show Below w.heap.size w u10 from below_step HB.out hb)
  replace Sw5 := Aside0.mk (Kd.S_below Sw5.out hb)
  replace Sw6 := Aside0.mk (Kd.S_below Sw6.out hb)
  replace X4 := Aside0.mk (keepN hb X4.out)
  replace Rx := Aside0.mk (Kd.R_below Rx.out hb)
  replace Sg5 := Aside0.mk (Kd.S_below Sg5.out hb)
  replace Sg6 := Aside0.mk (Kd.S_below Sg6.out hb)
  replace X7 := Aside0.mk (keepN hb X7.out)
  replace Rz := Aside0.mk (Kd.R_below Rz.out hb)
  have z10 := Aside0.mk hsz
  clear hsz
  clear Rz
  go_wp2_with fail
  have hlo : w.heap.size ≤ u4.heap.size := by have qz1_ := z1.out; have qz2_ := z2.out; have qz3_ := z3.out; have qz4_ := z4.out; have qz5_ := z5.out; have qz6_ := z6.out; have qz7_ := z7.out; have qz8_ := z8.out; have qz9_ := z9.out; have qz10_ := z10.out; omega
  refine (laws_markCellS.calls k (fun k_ => u4.heap.size ≤ k_ ∧ k_ < u5.heap.size) _ x 1 m1 m2 w _ HB.out (Kd.R_lower Rx.out hlo) HM.out).mono ?_
  rintro e u11 ⟨rfl, -, hB, hk⟩
  clear Rx
  replace HB := Aside0.mk hB
  have hsz := Aside0.mk hk.1
  replace Sw5 := Aside0.mk (Kd.S_step Sw5.out (fun k_ ho_ hlt_ => hk.2 k_ hlt_ (fun hp => by have h1 := hp; have h2 := ho_.1; have qz1_ := z1.out; have qz2_ := z2.out; have qz3_ := z3.out; have qz4_ := z4.out; have qz5_ := z5.out; have qz6_ := z6.out; have qz7_ := z7.out; have qz8_ := z8.out; have qz9_ := z9.out; have qz10_ := z10.out; omega)))
  replace Sw6 := Aside0.mk (Kd.S_step Sw6.out (fun k_ ho_ hlt_ => hk.2 k_ hlt_ (fun hp => by have h1 := hp; have h2 := ho_.1; have qz1_ := z1.out; have qz2_ := z2.out; have qz3_ := z3.out; have qz4_ := z4.out; have qz5_ := z5.out; have qz6_ := z6.out; have qz7_ := z7.out; have qz8_ := z8.out; have qz9_ := z9.out; have qz10_ := z10.out; omega)))
  replace X4 := Aside0.mk ((hk.2 _ (blk_lt X4.out) (fun hp => by have h1 := hp; have qz1_ := z1.out; have qz2_ := z2.out; have qz3_ := z3.out; have qz4_ := z4.out; have qz5_ := z5.out; have qz6_ := z6.out; have qz7_ := z7.out; have qz8_ := z8.out; have qz9_ := z9.out; have qz10_ := z10.out; omega)).trans X4.out)
  replace Sg5 := Aside0.mk (Kd.S_step Sg5.out (fun k_ ho_ hlt_ => hk.2 k_ hlt_ (fun hp => by have h1 := hp; have h2 := ho_.1; have qz1_ := z1.out; have qz2_ := z2.out; have qz3_ := z3.out; have qz4_ := z4.out; have qz5_ := z5.out; have qz6_ := z6.out; have qz7_ := z7.out; have qz8_ := z8.out; have qz9_ := z9.out; have qz10_ := z10.out; omega)))
  replace Sg6 := Aside0.mk (Kd.S_step Sg6.out (fun k_ ho_ hlt_ => hk.2 k_ hlt_ (fun hp => by have h1 := hp; have h2 := ho_.1; have qz1_ := z1.out; have qz2_ := z2.out; have qz3_ := z3.out; have qz4_ := z4.out; have qz5_ := z5.out; have qz6_ := z6.out; have qz7_ := z7.out; have qz8_ := z8.out; have qz9_ := z9.out; have qz10_ := z10.out; omega)))
  replace X7 := Aside0.mk ((hk.2 _ (blk_lt X7.out) (fun hp => by have h1 := hp; have qz1_ := z1.out; have qz2_ := z2.out; have qz3_ := z3.out; have qz4_ := z4.out; have qz5_ := z5.out; have qz6_ := z6.out; have qz7_ := z7.out; have qz8_ := z8.out; have qz9_ := z9.out; have qz10_ := z10.out; omega)).trans X7.out)
  have z11 := hsz
  clear hsz hB hk hlo
  have cX7_0 : u11.cell? ⟨u6.heap.size, 0, none⟩ = some (.int .i64 g1) := (blk_cell X7.out 0).trans rfl
  have cX7_1 : u11.cell? ⟨u6.heap.size, 1, none⟩ = some (.int .i64 g2) := (blk_cell X7.out 1).trans rfl
  have cX7_2 : u11.cell? ⟨u6.heap.size, 2, none⟩ = some (.int .i64 g3) := (blk_cell X7.out 2).trans rfl
  have cX7_3 : u11.cell? ⟨u6.heap.size, 3, none⟩ = some (.int .i64 g4) := (blk_cell X7.out 3).trans rfl
  have cX7_4 : u11.cell? ⟨u6.heap.size, 4, none⟩ = some (.slice Ag5 g5.length cg5) := (blk_cell X7.out 4).trans rfl
  have cX7_5 : u11.cell? ⟨u6.heap.size, 5, none⟩ = some (.slice Ag6 g6.length cg6) := (blk_cell X7.out 5).trans rfl
  have lX7 : u6.heap.size < u11.heap.size := blk_lt X7.out
  have nX7 : u6.heap.size ≠ u11.heap.size := Nat.ne_of_lt (blk_lt X7.out)
  have cX4_0 : u11.cell? ⟨u3.heap.size, 0, none⟩ = some (.int .i64 s1) := (blk_cell X4.out 0).trans rfl
  have cX4_1 : u11.cell? ⟨u3.heap.size, 1, none⟩ = some (.int .i64 s2) := (blk_cell X4.out 1).trans rfl
  have cX4_2 : u11.cell? ⟨u3.heap.size, 2, none⟩ = some (.int .i64 s3) := (blk_cell X4.out 2).trans rfl
  have cX4_3 : u11.cell? ⟨u3.heap.size, 3, none⟩ = some (.int .i64 s4) := (blk_cell X4.out 3).trans rfl
  have cX4_4 : u11.cell? ⟨u3.heap.size, 4, none⟩ = some (.slice Aw5 s5.length cw5) := (blk_cell X4.out 4).trans rfl
  have cX4_5 : u11.cell? ⟨u3.heap.size, 5, none⟩ = some (.slice Aw6 s6.length cw6) := (blk_cell X4.out 5).trans rfl
  have lX4 : u3.heap.size < u11.heap.size := blk_lt X4.out
  have nX4 : u3.heap.size ≠ u11.heap.size := Nat.ne_of_lt (blk_lt X4.out)
  go_wp2_with fail
  clear cX7_0 cX7_1 cX7_2 cX7_3 cX7_4 cX7_5 lX7 nX7 cX4_0 cX4_1 cX4_2 cX4_3 cX4_4 cX4_5 lX4 nX4
  refine (laws_eqEngineResult.calls k g1 g2 g3 g4 _ cg5 g5 _ cg6 g6 s1 s2 s3 s4 _ cw5 s5 _ cw6 s6 true _ (Kd.S_reads' Sg5.out).2.2 (Kd.S_reads' Sg5.out).2.1 (Kd.S_reads' Sg6.out).2.2 (Kd.S_reads' Sg6.out).2.1 (Kd.S_reads' Sw5.out).2.2 (Kd.S_reads' Sw5.out).2.1 (Kd.S_reads' Sw6.out).2.2 (Kd.S_reads' Sw6.out).2.1 HQ1.out).mono ?_
  rintro e u12 ⟨rfl, hb⟩
  have hsz := hb.size
  replace HB := Aside0.mk (show Below w.heap.size w u12 from below_step HB.out hb)
  replace Sw5 := Aside0.mk (Kd.S_below Sw5.out hb)
  replace Sw6 := Aside0.mk (Kd.S_below Sw6.out hb)
  replace X4 := Aside0.mk (keepN hb X4.out)
  replace Sg5 := Aside0.mk (Kd.S_below Sg5.out hb)
  replace Sg6 := Aside0.mk (Kd.S_below Sg6.out hb)
  replace X7 := Aside0.mk (keepN hb X7.out)
  have z12 := Aside0.mk hsz
  clear hsz
  have cX7_0 : u12.cell? ⟨u6.heap.size, 0, none⟩ = some (.int .i64 g1) := (blk_cell X7.out 0).trans rfl
  have cX7_1 : u12.cell? ⟨u6.heap.size, 1, none⟩ = some (.int .i64 g2) := (blk_cell X7.out 1).trans rfl
  have cX7_2 : u12.cell? ⟨u6.heap.size, 2, none⟩ = some (.int .i64 g3) := (blk_cell X7.out 2).trans rfl
  have cX7_3 : u12.cell? ⟨u6.heap.size, 3, none⟩ = some (.int .i64 g4) := (blk_cell X7.out 3).trans rfl
  have cX7_4 : u12.cell? ⟨u6.heap.size, 4, none⟩ = some (.slice Ag5 g5.length cg5) := (blk_cell X7.out 4).trans rfl
  have cX7_5 : u12.cell? ⟨u6.heap.size, 5, none⟩ = some (.slice Ag6 g6.length cg6) := (blk_cell X7.out 5).trans rfl
  have lX7 : u6.heap.size < u12.heap.size := blk_lt X7.out
  have nX7 : u6.heap.size ≠ u12.heap.size := Nat.ne_of_lt (blk_lt X7.out)
  have cX4_0 : u12.cell? ⟨u3.heap.size, 0, none⟩ = some (.int .i64 s1) := (blk_cell X4.out 0).trans rfl
  have cX4_1 : u12.cell? ⟨u3.heap.size, 1, none⟩ = some (.int .i64 s2) := (blk_cell X4.out 1).trans rfl
  have cX4_2 : u12.cell? ⟨u3.heap.size, 2, none⟩ = some (.int .i64 s3) := (blk_cell X4.out 2).trans rfl
  have cX4_3 : u12.cell? ⟨u3.heap.size, 3, none⟩ = some (.int .i64 s4) := (blk_cell X4.out 3).trans rfl
  have cX4_4 : u12.cell? ⟨u3.heap.size, 4, none⟩ = some (.slice Aw5 s5.length cw5) := (blk_cell X4.out 4).trans rfl
  have cX4_5 : u12.cell? ⟨u3.heap.size, 5, none⟩ = some (.slice Aw6 s6.length cw6) := (blk_cell X4.out 5).trans rfl
  have lX4 : u3.heap.size < u12.heap.size := blk_lt X4.out
  have nX4 : u3.heap.size ≠ u12.heap.size := Nat.ne_of_lt (blk_lt X4.out)
  go_wp2_with fail
  clear cX7_0 cX7_1 cX7_2 cX7_3 cX7_4 cX7_5 lX7 nX7 cX4_0 cX4_1 cX4_2 cX4_3 cX4_4 cX4_5 lX4 nX4
  have hlo : w.heap.size ≤ u5.heap.size := by have qz1_ := z1.out; have qz2_ := z2.out; have qz3_ := z3.out; have qz4_ := z4.out; have qz5_ := z5.out; have qz6_ := z6.out; have qz7_ := z7.out; have qz8_ := z8.out; have qz9_ := z9.out; have qz10_ := z10.out; have qz11_ := z11.out; have qz12_ := z12.out; omega
  refine (laws_markEngineResult.calls k g1 g2 g3 g4 (fun k_ => (u5.heap.size ≤ k_ ∧ k_ < u6.heap.size) ∧ ∃ q_, q_ ∈ [83, 96] ∧ ∃ cells, u6.heap[k_]? = some (.cells cells q_ (0, 0))) _ g5 (fun k_ => (u5.heap.size ≤ k_ ∧ k_ < u6.heap.size) ∧ ∃ q_, q_ ∈ [87, 90] ∧ ∃ cells, u6.heap[k_]? = some (.cells cells q_ (0, 0))) _ g6 1 q3 n2 n3 w _ HB.out (Kd.S_lower Sg5.out hlo) (Kd.S_lower Sg6.out hlo) (fun k_ h1 h2 => two_types h1.2 h2.2 (by decide)) HN.out).mono ?_
  rintro e u13 ⟨rfl, hs5, hs6, hB, hk⟩
  clear Sg5 Sg6
  replace HB := Aside0.mk hB
  have hsz := Aside0.mk hk.1
  replace Sw5 := Aside0.mk (Kd.S_step Sw5.out (fun k_ ho_ hlt_ => hk.2 k_ hlt_ (fun hp => by have h1 := (show _ ∧ _ from hp.elim (fun h => h.1) (fun h => h.1)); have h2 := ho_.1; have qz1_ := z1.out; have qz2_ := z2.out; have qz3_ := z3.out; have qz4_ := z4.out; have qz5_ := z5.out; have qz6_ := z6.out; have qz7_ := z7.out; have qz8_ := z8.out; have qz9_ := z9.out; have qz10_ := z10.out; have qz11_ := z11.out; have qz12_ := z12.out; omega)))
  replace Sw6 := Aside0.mk (Kd.S_step Sw6.out (fun k_ ho_ hlt_ => hk.2 k_ hlt_ (fun hp => by have h1 := (show _ ∧ _ from hp.elim (fun h => h.1) (fun h => h.1)); have h2 := ho_.1; have qz1_ := z1.out; have qz2_ := z2.out; have qz3_ := z3.out; have qz4_ := z4.out; have qz5_ := z5.out; have qz6_ := z6.out; have qz7_ := z7.out; have qz8_ := z8.out; have qz9_ := z9.out; have qz10_ := z10.out; have qz11_ := z11.out; have qz12_ := z12.out; omega)))
  replace X4 := Aside0.mk ((hk.2 _ (blk_lt X4.out) (fun hp => by have h1 := (show _ ∧ _ from hp.elim (fun h => h.1) (fun h => h.1)); have qz1_ := z1.out; have qz2_ := z2.out; have qz3_ := z3.out; have qz4_ := z4.out; have qz5_ := z5.out; have qz6_ := z6.out; have qz7_ := z7.out; have qz8_ := z8.out; have qz9_ := z9.out; have qz10_ := z10.out; have qz11_ := z11.out; have qz12_ := z12.out; omega)).trans X4.out)
  replace X7 := Aside0.mk ((hk.2 _ (blk_lt X7.out) (fun hp => by have h1 := (show _ ∧ _ from hp.elim (fun h => h.1) (fun h => h.1)); have qz1_ := z1.out; have qz2_ := z2.out; have qz3_ := z3.out; have qz4_ := z4.out; have qz5_ := z5.out; have qz6_ := z6.out; have qz7_ := z7.out; have qz8_ := z8.out; have qz9_ := z9.out; have qz10_ := z10.out; have qz11_ := z11.out; have qz12_ := z12.out; omega)).trans X7.out)
  have z13 := hsz
  clear hsz hB hk hlo
  obtain ⟨gl5_, -, -⟩ := Kd.S_reads' hs5
  rw [gl5_] at hs5
  have Sg5 := Aside0.mk hs5
  have GL5 := Aside0.mk gl5_
  clear hs5 gl5_
  obtain ⟨gl6_, -, -⟩ := Kd.S_reads' hs6
  rw [gl6_] at hs6
  have Sg6 := Aside0.mk hs6
  have GL6 := Aside0.mk gl6_
  clear hs6 gl6_
  have cX7_0 : u13.cell? ⟨u6.heap.size, 0, none⟩ = some (.int .i64 g1) := (blk_cell X7.out 0).trans rfl
  have cX7_1 : u13.cell? ⟨u6.heap.size, 1, none⟩ = some (.int .i64 g2) := (blk_cell X7.out 1).trans rfl
  have cX7_2 : u13.cell? ⟨u6.heap.size, 2, none⟩ = some (.int .i64 g3) := (blk_cell X7.out 2).trans rfl
  have cX7_3 : u13.cell? ⟨u6.heap.size, 3, none⟩ = some (.int .i64 g4) := (blk_cell X7.out 3).trans rfl
  have cX7_4 : u13.cell? ⟨u6.heap.size, 4, none⟩ = some (.slice Ag5 g5.length cg5) := (blk_cell X7.out 4).trans rfl
  have cX7_5 : u13.cell? ⟨u6.heap.size, 5, none⟩ = some (.slice Ag6 g6.length cg6) := (blk_cell X7.out 5).trans rfl
  have lX7 : u6.heap.size < u13.heap.size := blk_lt X7.out
  have nX7 : u6.heap.size ≠ u13.heap.size := Nat.ne_of_lt (blk_lt X7.out)
  have cX4_0 : u13.cell? ⟨u3.heap.size, 0, none⟩ = some (.int .i64 s1) := (blk_cell X4.out 0).trans rfl
  have cX4_1 : u13.cell? ⟨u3.heap.size, 1, none⟩ = some (.int .i64 s2) := (blk_cell X4.out 1).trans rfl
  have cX4_2 : u13.cell? ⟨u3.heap.size, 2, none⟩ = some (.int .i64 s3) := (blk_cell X4.out 2).trans rfl
  have cX4_3 : u13.cell? ⟨u3.heap.size, 3, none⟩ = some (.int .i64 s4) := (blk_cell X4.out 3).trans rfl
  have cX4_4 : u13.cell? ⟨u3.heap.size, 4, none⟩ = some (.slice Aw5 s5.length cw5) := (blk_cell X4.out 4).trans rfl
  have cX4_5 : u13.cell? ⟨u3.heap.size, 5, none⟩ = some (.slice Aw6 s6.length cw6) := (blk_cell X4.out 5).trans rfl
  have lX4 : u3.heap.size < u13.heap.size := blk_lt X4.out
  have nX4 : u3.heap.size ≠ u13.heap.size := Nat.ne_of_lt (blk_lt X4.out)
  go_wp2_with fail
  clear cX7_0 cX7_1 cX7_2 cX7_3 cX7_4 cX7_5 lX7 nX7 cX4_0 cX4_1 cX4_2 cX4_3 cX4_4 cX4_5 lX4 nX4
  rw [GL5.out, GL6.out]
  refine (laws_heldEngineResult.calls k g1 g2 g3 g4 _ cg5 n2 _ cg6 n3 1 q3 _ (Kd.S_reads' Sg5.out).2.2 (Kd.S_reads' Sg5.out).2.1 (Kd.S_reads' Sg6.out).2.2 (Kd.S_reads' Sg6.out).2.1 HQ3.out).mono ?_
  rintro e u14 ⟨rfl, hb⟩
  have hsz := hb.size
  replace HB := Aside0.mk (show Below w.heap.size w u14 from below_step HB.out hb)
  replace Sw5 := Aside0.mk (Kd.S_below Sw5.out hb)
  replace Sw6 := Aside0.mk (Kd.S_below Sw6.out hb)
  replace X4 := Aside0.mk (keepN hb X4.out)
  replace X7 := Aside0.mk (keepN hb X7.out)
  replace Sg5 := Aside0.mk (Kd.S_below Sg5.out hb)
  replace Sg6 := Aside0.mk (Kd.S_below Sg6.out hb)
  have z14 := Aside0.mk hsz
  clear hsz
  have cX7_0 : u14.cell? ⟨u6.heap.size, 0, none⟩ = some (.int .i64 g1) := (blk_cell X7.out 0).trans rfl
  have cX7_1 : u14.cell? ⟨u6.heap.size, 1, none⟩ = some (.int .i64 g2) := (blk_cell X7.out 1).trans rfl
  have cX7_2 : u14.cell? ⟨u6.heap.size, 2, none⟩ = some (.int .i64 g3) := (blk_cell X7.out 2).trans rfl
  have cX7_3 : u14.cell? ⟨u6.heap.size, 3, none⟩ = some (.int .i64 g4) := (blk_cell X7.out 3).trans rfl
  have cX7_4 : u14.cell? ⟨u6.heap.size, 4, none⟩ = some (.slice Ag5 g5.length cg5) := (blk_cell X7.out 4).trans rfl
  have cX7_5 : u14.cell? ⟨u6.heap.size, 5, none⟩ = some (.slice Ag6 g6.length cg6) := (blk_cell X7.out 5).trans rfl
  have lX7 : u6.heap.size < u14.heap.size := blk_lt X7.out
  have nX7 : u6.heap.size ≠ u14.heap.size := Nat.ne_of_lt (blk_lt X7.out)
  have cX4_0 : u14.cell? ⟨u3.heap.size, 0, none⟩ = some (.int .i64 s1) := (blk_cell X4.out 0).trans rfl
  have cX4_1 : u14.cell? ⟨u3.heap.size, 1, none⟩ = some (.int .i64 s2) := (blk_cell X4.out 1).trans rfl
  have cX4_2 : u14.cell? ⟨u3.heap.size, 2, none⟩ = some (.int .i64 s3) := (blk_cell X4.out 2).trans rfl
  have cX4_3 : u14.cell? ⟨u3.heap.size, 3, none⟩ = some (.int .i64 s4) := (blk_cell X4.out 3).trans rfl
  have cX4_4 : u14.cell? ⟨u3.heap.size, 4, none⟩ = some (.slice Aw5 s5.length cw5) := (blk_cell X4.out 4).trans rfl
  have cX4_5 : u14.cell? ⟨u3.heap.size, 5, none⟩ = some (.slice Aw6 s6.length cw6) := (blk_cell X4.out 5).trans rfl
  have lX4 : u3.heap.size < u14.heap.size := blk_lt X4.out
  have nX4 : u3.heap.size ≠ u14.heap.size := Nat.ne_of_lt (blk_lt X4.out)
  go_wp2_with fail
  clear cX7_0 cX7_1 cX7_2 cX7_3 cX7_4 cX7_5 lX7 nX7 cX4_0 cX4_1 cX4_2 cX4_3 cX4_4 cX4_5 lX4 nX4
  refine (laws_toCellS.calls k _ c0 l0 x _ (Kd.C_below HR0.out HB.out) HC0.out HX.out).mono ?_
  rintro e u15 ⟨vv, rfl, hr, hb⟩
  have hsz := hb.size
  replace HB := Aside0.mk (show Below w.heap.size w u15 from below_step HB.out hb)
  replace Sw5 := Aside0.mk (Kd.S_below Sw5.out hb)
  replace Sw6 := Aside0.mk (Kd.S_below Sw6.out hb)
  replace X4 := Aside0.mk (keepN hb X4.out)
  replace X7 := Aside0.mk (keepN hb X7.out)
  replace Sg5 := Aside0.mk (Kd.S_below Sg5.out hb)
  replace Sg6 := Aside0.mk (Kd.S_below Sg6.out hb)
  have z15 := Aside0.mk hsz
  clear hsz
  obtain ⟨Av, cv, e1⟩ := Kd.R_slice hr
  subst e1
  have Rv := Aside0.mk (show Kd.R k105 105 u15 u14.heap.size (fun k_ => u14.heap.size ≤ k_ ∧ k_ < u15.heap.size) (.slice Av x.length cv) x from Kd.R_mono (Kd.R_bound hr) (fun k_ h_ => ⟨h_.2.1, h_.2.2.1⟩))
  clear hr
  go_wp2_with fail
  refine (impl_NewEngine.calls k _ cv x g1 g2 g3 g4 g5 g6 _ (Kd.R_reads' Rv.out).2.2 (Kd.R_reads' Rv.out).2.1 HG.out).mono ?_
  rintro e u16 ⟨v4, v5, rfl, h4, h5, hb⟩
  have hsz := hb.size
  replace HB := Aside0.mk (show Below w.heap.size w u16 from below_step HB.out hb)
  replace Sw5 := Aside0.mk (Kd.S_below Sw5.out hb)
  replace Sw6 := Aside0.mk (Kd.S_below Sw6.out hb)
  replace X4 := Aside0.mk (keepN hb X4.out)
  replace X7 := Aside0.mk (keepN hb X7.out)
  replace Sg5 := Aside0.mk (Kd.S_below Sg5.out hb)
  replace Sg6 := Aside0.mk (Kd.S_below Sg6.out hb)
  replace Rv := Aside0.mk (Kd.R_below Rv.out hb)
  have z16 := Aside0.mk hsz
  clear hsz
  obtain ⟨Ah5, ch5, e1⟩ := Kd.S_slice h4
  subst e1
  have Sh5 := Aside0.mk (show Kd.S k83 83 u16 u15.heap.size (fun k_ => (u15.heap.size ≤ k_ ∧ k_ < u16.heap.size) ∧ ∃ q_, q_ ∈ [83, 96] ∧ ∃ cells, u16.heap[k_]? = some (.cells cells q_ (0, 0))) (.slice Ah5 g5.length ch5) g5 from Kd.S_mono (Kd.S_bound h4) (fun k_ h_ => ⟨⟨h_.2.1, h_.2.2.1⟩, h_.2.2.2⟩))
  clear h4
  obtain ⟨Ah6, ch6, e1⟩ := Kd.S_slice h5
  subst e1
  have Sh6 := Aside0.mk (show Kd.S k87 87 u16 u15.heap.size (fun k_ => (u15.heap.size ≤ k_ ∧ k_ < u16.heap.size) ∧ ∃ q_, q_ ∈ [87, 90] ∧ ∃ cells, u16.heap[k_]? = some (.cells cells q_ (0, 0))) (.slice Ah6 g6.length ch6) g6 from Kd.S_mono (Kd.S_bound h5) (fun k_ h_ => ⟨⟨h_.2.1, h_.2.2.1⟩, h_.2.2.2⟩))
  clear h5
  clear Rv
  have cX4_0 : u16.cell? ⟨u3.heap.size, 0, none⟩ = some (.int .i64 s1) := (blk_cell X4.out 0).trans rfl
  have cX4_1 : u16.cell? ⟨u3.heap.size, 1, none⟩ = some (.int .i64 s2) := (blk_cell X4.out 1).trans rfl
  have cX4_2 : u16.cell? ⟨u3.heap.size, 2, none⟩ = some (.int .i64 s3) := (blk_cell X4.out 2).trans rfl
  have cX4_3 : u16.cell? ⟨u3.heap.size, 3, none⟩ = some (.int .i64 s4) := (blk_cell X4.out 3).trans rfl
  have cX4_4 : u16.cell? ⟨u3.heap.size, 4, none⟩ = some (.slice Aw5 s5.length cw5) := (blk_cell X4.out 4).trans rfl
  have cX4_5 : u16.cell? ⟨u3.heap.size, 5, none⟩ = some (.slice Aw6 s6.length cw6) := (blk_cell X4.out 5).trans rfl
  have lX4 : u3.heap.size < u16.heap.size := blk_lt X4.out
  have nX4 : u3.heap.size ≠ u16.heap.size := Nat.ne_of_lt (blk_lt X4.out)
  go_wp2_with fail
  clear cX4_0 cX4_1 cX4_2 cX4_3 cX4_4 cX4_5 lX4 nX4
  have hb : Below u16.heap.size u16 (u16.alloc (Obj.cells #[.int .i64 g1, .int .i64 g2, .int .i64 g3, .int .i64 g4, .slice Ah5 g5.length ch5, .slice Ah6 g6.length ch6] 38)) := below_alloc (Below.refl _ _) _
  have hbx := blk_new u16 (Obj.cells #[.int .i64 g1, .int .i64 g2, .int .i64 g3, .int .i64 g4, .slice Ah5 g5.length ch5, .slice Ah6 g6.length ch6] 38)
  have hsz : u16.heap.size + 1 = (u16.alloc (Obj.cells #[.int .i64 g1, .int .i64 g2, .int .i64 g3, .int .i64 g4, .slice Ah5 g5.length ch5, .slice Ah6 g6.length ch6] 38)).heap.size := by simp
  replace HB := Aside0.mk (below_alloc HB.out (Obj.cells #[.int .i64 g1, .int .i64 g2, .int .i64 g3, .int .i64 g4, .slice Ah5 g5.length ch5, .slice Ah6 g6.length ch6] 38))
  replace Sw5 := Aside0.mk (Kd.S_below Sw5.out hb)
  replace Sw6 := Aside0.mk (Kd.S_below Sw6.out hb)
  replace X4 := Aside0.mk (keepN hb X4.out)
  replace X7 := Aside0.mk (keepN hb X7.out)
  replace Sg5 := Aside0.mk (Kd.S_below Sg5.out hb)
  replace Sg6 := Aside0.mk (Kd.S_below Sg6.out hb)
  replace Sh5 := Aside0.mk (Kd.S_below Sh5.out hb)
  replace Sh6 := Aside0.mk (Kd.S_below Sh6.out hb)
  have hbz := Aside0.mk hb
  have hbxz := Aside0.mk hbx
  have hszz := Aside0.mk hsz
  clear hb hbx hsz
  generalize u16.alloc (Obj.cells #[.int .i64 g1, .int .i64 g2, .int .i64 g3, .int .i64 g4, .slice Ah5 g5.length ch5, .slice Ah6 g6.length ch6] 38) = u17 at HB hbz hbxz hszz Sw5 Sw6 X4 X7 Sg5 Sg6 Sh5 Sh6 ⊢
  have X17 := hbxz
  have z17 := hszz
  clear hbz hbxz hszz
  refine (laws_eqEngineResult.calls k g1 g2 g3 g4 _ ch5 g5 _ ch6 g6 s1 s2 s3 s4 _ cw5 s5 _ cw6 s6 true _ (Kd.S_reads' Sh5.out).2.2 (Kd.S_reads' Sh5.out).2.1 (Kd.S_reads' Sh6.out).2.2 (Kd.S_reads' Sh6.out).2.1 (Kd.S_reads' Sw5.out).2.2 (Kd.S_reads' Sw5.out).2.1 (Kd.S_reads' Sw6.out).2.2 (Kd.S_reads' Sw6.out).2.1 HQ1.out).mono ?_
  rintro e u18 ⟨rfl, hb⟩
  have hsz := hb.size
  replace HB := Aside0.mk (show Below w.heap.size w u18 from below_step HB.out hb)
  replace Sw5 := Aside0.mk (Kd.S_below Sw5.out hb)
  replace Sw6 := Aside0.mk (Kd.S_below Sw6.out hb)
  replace X4 := Aside0.mk (keepN hb X4.out)
  replace X7 := Aside0.mk (keepN hb X7.out)
  replace Sg5 := Aside0.mk (Kd.S_below Sg5.out hb)
  replace Sg6 := Aside0.mk (Kd.S_below Sg6.out hb)
  replace Sh5 := Aside0.mk (Kd.S_below Sh5.out hb)
  replace Sh6 := Aside0.mk (Kd.S_below Sh6.out hb)
  replace X17 := Aside0.mk (keepN hb X17.out)
  have z18 := Aside0.mk hsz
  clear hsz
  have cX7_0 : u18.cell? ⟨u6.heap.size, 0, none⟩ = some (.int .i64 g1) := (blk_cell X7.out 0).trans rfl
  have cX7_1 : u18.cell? ⟨u6.heap.size, 1, none⟩ = some (.int .i64 g2) := (blk_cell X7.out 1).trans rfl
  have cX7_2 : u18.cell? ⟨u6.heap.size, 2, none⟩ = some (.int .i64 g3) := (blk_cell X7.out 2).trans rfl
  have cX7_3 : u18.cell? ⟨u6.heap.size, 3, none⟩ = some (.int .i64 g4) := (blk_cell X7.out 3).trans rfl
  have cX7_4 : u18.cell? ⟨u6.heap.size, 4, none⟩ = some (.slice Ag5 g5.length cg5) := (blk_cell X7.out 4).trans rfl
  have cX7_5 : u18.cell? ⟨u6.heap.size, 5, none⟩ = some (.slice Ag6 g6.length cg6) := (blk_cell X7.out 5).trans rfl
  have lX7 : u6.heap.size < u18.heap.size := blk_lt X7.out
  have nX7 : u6.heap.size ≠ u18.heap.size := Nat.ne_of_lt (blk_lt X7.out)
  have cX4_0 : u18.cell? ⟨u3.heap.size, 0, none⟩ = some (.int .i64 s1) := (blk_cell X4.out 0).trans rfl
  have cX4_1 : u18.cell? ⟨u3.heap.size, 1, none⟩ = some (.int .i64 s2) := (blk_cell X4.out 1).trans rfl
  have cX4_2 : u18.cell? ⟨u3.heap.size, 2, none⟩ = some (.int .i64 s3) := (blk_cell X4.out 2).trans rfl
  have cX4_3 : u18.cell? ⟨u3.heap.size, 3, none⟩ = some (.int .i64 s4) := (blk_cell X4.out 3).trans rfl
  have cX4_4 : u18.cell? ⟨u3.heap.size, 4, none⟩ = some (.slice Aw5 s5.length cw5) := (blk_cell X4.out 4).trans rfl
  have cX4_5 : u18.cell? ⟨u3.heap.size, 5, none⟩ = some (.slice Aw6 s6.length cw6) := (blk_cell X4.out 5).trans rfl
  have lX4 : u3.heap.size < u18.heap.size := blk_lt X4.out
  have nX4 : u3.heap.size ≠ u18.heap.size := Nat.ne_of_lt (blk_lt X4.out)
  go_wp2_with fail
  clear cX7_0 cX7_1 cX7_2 cX7_3 cX7_4 cX7_5 lX7 nX7 cX4_0 cX4_1 cX4_2 cX4_3 cX4_4 cX4_5 lX4 nX4
  rw [GL5.out, GL6.out]
  refine (laws_heldEngineResult.calls k g1 g2 g3 g4 _ cg5 n2 _ cg6 n3 1 q3 _ (Kd.S_reads' Sg5.out).2.2 (Kd.S_reads' Sg5.out).2.1 (Kd.S_reads' Sg6.out).2.2 (Kd.S_reads' Sg6.out).2.1 HQ3.out).mono ?_
  rintro e u19 ⟨rfl, hb⟩
  have hsz := hb.size
  replace HB := Aside0.mk (show Below w.heap.size w u19 from below_step HB.out hb)
  replace Sw5 := Aside0.mk (Kd.S_below Sw5.out hb)
  replace Sw6 := Aside0.mk (Kd.S_below Sw6.out hb)
  replace X4 := Aside0.mk (keepN hb X4.out)
  replace X7 := Aside0.mk (keepN hb X7.out)
  replace Sg5 := Aside0.mk (Kd.S_below Sg5.out hb)
  replace Sg6 := Aside0.mk (Kd.S_below Sg6.out hb)
  replace Sh5 := Aside0.mk (Kd.S_below Sh5.out hb)
  replace Sh6 := Aside0.mk (Kd.S_below Sh6.out hb)
  replace X17 := Aside0.mk (keepN hb X17.out)
  have z19 := Aside0.mk hsz
  clear hsz
  go_wp2_with fail
  go_ret
  exact ⟨rfl, HB.out⟩


end Go.Proofs.Ytonbnmaelepcbaa.P
