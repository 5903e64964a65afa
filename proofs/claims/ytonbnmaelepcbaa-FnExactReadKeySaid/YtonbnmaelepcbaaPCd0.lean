-- Printed by this session's own program over the kit's print (wip/tools/mp.py). Not trusted: Lean checks it.
import Derived.Test.YtonbnmaelepcbaaP0
import Derived.Test.YtonbnmaelepcbaaPCacdefgh2
import Derived.Test.YtonbnmaelepcbaaPCacdefgh6
import Derived.Test.YtonbnmaelepcbaaPCdgh0
import Derived.Test.YtonbnmaelepcbaaPCdgh1
import Derived.Test.YtonbnmaelepcbaaPCdh0
import Derived.Test.YtonbnmaelepcbaaPDacdefgh0
import Derived.Test.YtonbnmaelepcbaaPDm1
import Derived.Test.YtonbnmaelepcbaaPDm2
import Derived.Test.YtonbnmaelepcbaaWRepsOne
import Derived.Test.YtonbnmaelepcbaaLb
import Derived.Test.YtonbnmaelepcbaaLv
import Derived.IntWalk
import Derived.Shelf.Abstract
namespace Go.Proofs.Ytonbnmaelepcbaa.P
open Go.RowKit Go.Proofs.YtonbnmaelepcbaaW.PrintWords Go.Proofs.YtonbnmaelepcbaaW.PrintLast Go.Proofs.YtonbnmaelepcbaaW.PrintMore
attribute [local go_sem] max2_int min2_int max_two min_two max_three min_three max_four min_four   -- for this text's walks alone
set_option linter.unusedVariables false
set_option linter.unusedSimpArgs false

/-! ### spec_ReadKey: function 28 -/
-- PROOF --
-- NEEDS Derived.Test.YtonbnmaelepcbaaLb
-- NEEDS Derived.Test.YtonbnmaelepcbaaLv
-- NEEDS Derived.IntWalk
-- NEEDS Derived.Shelf.Abstract
set_option maxHeartbeats 8000000 in
set_option maxRecDepth 100000 in
theorem spec_ReadKey.calls (k : Nat) (a0_0 a0_1 : Int) (A2 : Option Addr) (c2 : Nat) (l2 : List S83) (A3 : Option Addr) (c3 : Nat) (l3 : List S87) (id key r1 r2 : Int) (w : World) (hr2 : Kd.C k83 w A2 l2.length l2) (hc2 : l2.length ≤ c2) (hr3 : Kd.C k87 w A3 l3.length l3) (hc3 : l3.length ≤ c3) (h : spec_ReadKey.f k a0_0 a0_1 l2 l3 id key = some (r1, r2)) :
  Calls Try.prog 28 #[.agg #[.int .i64 a0_0, .int .i64 a0_1, .slice A2 l2.length c2, .slice A3 l3.length c3], .int .i64 id, .int .i64 key] w fun e w' => e = .returned (.agg #[.int .i64 r1, .int .i64 r2]) ∧ Below w.heap.size w w' := by
 have hu31 := Try.underlying31
 have hu48 := Try.underlying48
 have hu83 := Try.underlying83
 have HB := Aside0.mk (Below.refl w.heap.size w)
 have HR2 := Aside0.mk hr2
 have HR3 := Aside0.mk hr3
 have HC2 := Aside0.mk hc2
 have HC3 := Aside0.mk hc3
 have hn2 := hr2.2.1
 have hn3 := hr3.2.1
 clear hr2 hr3 hc2 hc3
 unfold spec_ReadKey.f at h
 obtain ⟨flt, hf, h⟩ := Option.bind_eq_some_iff.mp h
 have HF := Aside0.mk hf
 clear hf
 have hok := @askedF_ok flt l2 id
 obtain ⟨⟨i, c⟩, hi⟩ : ∃ q, askedF flt l2 id = q := ⟨_, rfl⟩
 rw [hi] at h hok
 have HI := Aside0.mk hi
 clear hi
 simp only at h hok
 by_cases c0 : c = 0
 ·rw [if_pos c0] at h
  have f1 : (c == 0) = true := beq_iff_eq.2 c0
  have f2 : (c != 0) = false := bne_eq_false_iff_eq.2 c0
  obtain ⟨i0, i1⟩ := hok c0
  rcases hb_ (inB key 0 31) with ck | ck
  ·rw [if_pos ck] at h
   obtain ⟨⟨v1, v2⟩, hv, h⟩ := Option.bind_eq_some_iff.mp h
   obtain ⟨Y, hY⟩ : ∃ x, x = l2.getD i.toNat z83 := ⟨_, rfl⟩
   rw [← hY] at hv
   have HV := Aside0.mk hv
   clear hv
   have HY := Aside0.mk hY
   clear hY
   obtain ⟨ad, A4, c4, ea, hw0, hw1, -, -, -, -, -⟩ := at_T83 HR2.out i i0 i1
   cases ea
   rw [show rd_T83 l2 i = Y from HY.out.symm] at hw0 hw1
   have HW0 := Aside0.mk hw0
   have HW1 := Aside0.mk hw1
   clear hw0 hw1
   cases v2
   ·rw [if_neg (show ¬ ((v1, false) : Int × Bool).2 = true from by simp)] at h
    simp only [Option.some.injEq, Prod.mk.injEq] at h
    obtain ⟨rfl, rfl⟩ := h
    go_enter Try.func28, Try.ntmps28
    go_wp2_with fail
    have hb : Below w.heap.size w (w.alloc (Obj.cells #[.int .i64 a0_0, .int .i64 a0_1, .slice (some ad) l2.length c2, .slice A3 l3.length c3] 31)) := below_alloc (Below.refl _ _) _
    have hbx := blk_new w (Obj.cells #[.int .i64 a0_0, .int .i64 a0_1, .slice (some ad) l2.length c2, .slice A3 l3.length c3] 31)
    have hsz : w.heap.size + 1 = (w.alloc (Obj.cells #[.int .i64 a0_0, .int .i64 a0_1, .slice (some ad) l2.length c2, .slice A3 l3.length c3] 31)).heap.size := by simp
    replace HB := Aside0.mk (below_alloc HB.out (Obj.cells #[.int .i64 a0_0, .int .i64 a0_1, .slice (some ad) l2.length c2, .slice A3 l3.length c3] 31))
    have hbz := Aside0.mk hb
    have hbxz := Aside0.mk hbx
    have hszz := Aside0.mk hsz
    clear hb hbx hsz
    generalize w.alloc (Obj.cells #[.int .i64 a0_0, .int .i64 a0_1, .slice (some ad) l2.length c2, .slice A3 l3.length c3] 31) = u1 at HB hbz hbxz hszz ⊢
    have X1 := hbxz
    have z1 := hszz
    clear hbz hbxz hszz
    have hb : Below u1.heap.size u1 (u1.alloc (Obj.cells #[.int .i64 0, .int .i64 0] 48)) := below_alloc (Below.refl _ _) _
    have hbx := blk_new u1 (Obj.cells #[.int .i64 0, .int .i64 0] 48)
    have hsz : u1.heap.size + 1 = (u1.alloc (Obj.cells #[.int .i64 0, .int .i64 0] 48)).heap.size := by simp
    replace HB := Aside0.mk (below_alloc HB.out (Obj.cells #[.int .i64 0, .int .i64 0] 48))
    rw [← z1.out] at hbx
    replace X1 := Aside0.mk (keepB hb X1.out)
    have hbz := Aside0.mk hb
    have hbxz := Aside0.mk hbx
    have hszz := Aside0.mk hsz
    clear hb hbx hsz
    generalize u1.alloc (Obj.cells #[.int .i64 0, .int .i64 0] 48) = u2 at HB hbz hbxz hszz X1 ⊢
    have X2 := hbxz
    have z2 := hszz
    clear hbz hbxz hszz
    have GEX2 := Aside0.mk (show w.heap.size ≤ w.heap.size + 1 from by have qz1_ := z1.out; have qz2_ := z2.out; omega)
    refine (spec_l6Asked.at (g := w.heap.size) k a0_0 a0_1 _ c2 l2 A3 c3 l3 id flt i c _ (Kd.C_below HR2.out HB.out) HC2.out (Kd.C_below HR3.out HB.out) HC3.out HF.out HI.out X1).mono ?_
    rintro e u3 ⟨rfl, hb⟩
    have hsz := hb.size
    replace HB := Aside0.mk (show Below w.heap.size w u3 from below_step HB.out hb)
    replace X1 := Aside0.mk (keepB hb X1.out)
    replace X2 := Aside0.mk (keepB hb X2.out)
    have z3 := Aside0.mk hsz
    clear hsz
    have cX1_0 : u3.cell? ⟨w.heap.size, 0, none⟩ = some (.int .i64 a0_0) := (blk_cell X1.out 0).trans rfl
    have cX1_1 : u3.cell? ⟨w.heap.size, 1, none⟩ = some (.int .i64 a0_1) := (blk_cell X1.out 1).trans rfl
    have cX1_2 : u3.cell? ⟨w.heap.size, 2, none⟩ = some (.slice (some ad) l2.length c2) := (blk_cell X1.out 2).trans rfl
    have cX1_3 : u3.cell? ⟨w.heap.size, 3, none⟩ = some (.slice A3 l3.length c3) := (blk_cell X1.out 3).trans rfl
    have lX1 : w.heap.size < u3.heap.size := blk_lt X1.out
    have nX1 : w.heap.size ≠ u3.heap.size := Nat.ne_of_lt (blk_lt X1.out)
    have cX2_0 : u3.cell? ⟨w.heap.size + 1, 0, none⟩ = some (.int .i64 0) := (blk_cell X2.out 0).trans rfl
    have fX2_0 : u3.frozen? ⟨w.heap.size + 1, 0, none⟩ = false := blk_frozen X2.out 0
    have cX2_1 : u3.cell? ⟨w.heap.size + 1, 1, none⟩ = some (.int .i64 0) := (blk_cell X2.out 1).trans rfl
    have fX2_1 : u3.frozen? ⟨w.heap.size + 1, 1, none⟩ = false := blk_frozen X2.out 1
    have lX2 : w.heap.size + 1 < u3.heap.size := blk_lt X2.out
    have nX2 : w.heap.size + 1 ≠ u3.heap.size := Nat.ne_of_lt (blk_lt X2.out)
    go_wp2_with (go_at_call 71; refine (cKey _ _).mono ?_; rintro e w' ⟨rfl, n, rfl⟩)
    refine (spec_l6View.at (ad.add (i.toNat * 5)) Y.f0 Y.f1 _ (pw_cell_below (pw_below_drewN HB.out _) HW0.out) (pw_cell_below (pw_below_drewN HB.out _) HW1.out)).mono ?_
    rintro e u4 ⟨rfl, hb⟩
    clear cX1_0 cX1_1 cX1_2 cX1_3 lX1 nX1 cX2_0 fX2_0 cX2_1 fX2_1 lX2 nX2
    replace hb : Below u3.heap.size u3 u4 := below_step (pw_below_drewN (Below.refl _ _) _) hb
    have hsz := hb.size
    replace HB := Aside0.mk (show Below w.heap.size w u4 from below_step HB.out hb)
    replace X1 := Aside0.mk (keepB hb X1.out)
    replace X2 := Aside0.mk (keepB hb X2.out)
    have z4 := Aside0.mk hsz
    clear hsz
    go_wp2_with fail
    refine (spec_l6Read.at (g := w.heap.size) k a0_0 a0_1 _ c2 l2 A3 c3 l3 Y.f1 Y.f0 key v1 false _ (Kd.C_below HR2.out HB.out) HC2.out (Kd.C_below HR3.out HB.out) HC3.out HV.out X1).mono ?_
    rintro e u5 ⟨rfl, hb⟩
    have hsz := hb.size
    replace HB := Aside0.mk (show Below w.heap.size w u5 from below_step HB.out hb)
    replace X1 := Aside0.mk (keepB hb X1.out)
    replace X2 := Aside0.mk (keepB hb X2.out)
    have z5 := Aside0.mk hsz
    clear hsz
    have cX2_0 : u5.cell? ⟨w.heap.size + 1, 0, none⟩ = some (.int .i64 0) := (blk_cell X2.out 0).trans rfl
    have fX2_0 : u5.frozen? ⟨w.heap.size + 1, 0, none⟩ = false := blk_frozen X2.out 0
    have cX2_1 : u5.cell? ⟨w.heap.size + 1, 1, none⟩ = some (.int .i64 0) := (blk_cell X2.out 1).trans rfl
    have fX2_1 : u5.frozen? ⟨w.heap.size + 1, 1, none⟩ = false := blk_frozen X2.out 1
    have lX2 : w.heap.size + 1 < u5.heap.size := blk_lt X2.out
    have nX2 : w.heap.size + 1 ≠ u5.heap.size := Nat.ne_of_lt (blk_lt X2.out)
    go_wp2_with fail
    refine bodyPost_ret (results_cell_row rfl _ _ (w.heap.size + 1) 48 #[.int .i64 4, .int .i64 0] (0, 0) _ rfl (by (with_reducible repeat (first | refine blk_drewN ?_ _ | refine blk_drew ?_ | refine blk_alloc ?_ _)); refine blk_put (cs := #[.int .i64 4, .int .i64 0]) ?_ 1 _ rfl; (with_reducible repeat (first | refine blk_drewN ?_ _ | refine blk_drew ?_ | refine blk_alloc ?_ _)); refine blk_put (cs := #[.int .i64 0, .int .i64 0]) ?_ 0 _ rfl; (with_reducible repeat (first | refine blk_drewN ?_ _ | refine blk_drew ?_ | refine blk_alloc ?_ _)); exact X2.out) Try.underlying48 rfl (by kernel_rfl)) rfl ?_
    exact ⟨rfl, (by repeat (first | (with_reducible first | exact HB.out | apply below_alloc | apply pw_below_drewN | apply below_drew1 | refine below_set ?_ GEX2.out) | exact HB.out))⟩
   ·rw [if_pos rfl] at h
    simp only [Option.some.injEq, Prod.mk.injEq] at h
    obtain ⟨rfl, rfl⟩ := h
    go_enter Try.func28, Try.ntmps28
    go_wp2_with fail
    have hb : Below w.heap.size w (w.alloc (Obj.cells #[.int .i64 a0_0, .int .i64 a0_1, .slice (some ad) l2.length c2, .slice A3 l3.length c3] 31)) := below_alloc (Below.refl _ _) _
    have hbx := blk_new w (Obj.cells #[.int .i64 a0_0, .int .i64 a0_1, .slice (some ad) l2.length c2, .slice A3 l3.length c3] 31)
    have hsz : w.heap.size + 1 = (w.alloc (Obj.cells #[.int .i64 a0_0, .int .i64 a0_1, .slice (some ad) l2.length c2, .slice A3 l3.length c3] 31)).heap.size := by simp
    replace HB := Aside0.mk (below_alloc HB.out (Obj.cells #[.int .i64 a0_0, .int .i64 a0_1, .slice (some ad) l2.length c2, .slice A3 l3.length c3] 31))
    have hbz := Aside0.mk hb
    have hbxz := Aside0.mk hbx
    have hszz := Aside0.mk hsz
    clear hb hbx hsz
    generalize w.alloc (Obj.cells #[.int .i64 a0_0, .int .i64 a0_1, .slice (some ad) l2.length c2, .slice A3 l3.length c3] 31) = u1 at HB hbz hbxz hszz ⊢
    have X1 := hbxz
    have z1 := hszz
    clear hbz hbxz hszz
    have hb : Below u1.heap.size u1 (u1.alloc (Obj.cells #[.int .i64 0, .int .i64 0] 48)) := below_alloc (Below.refl _ _) _
    have hbx := blk_new u1 (Obj.cells #[.int .i64 0, .int .i64 0] 48)
    have hsz : u1.heap.size + 1 = (u1.alloc (Obj.cells #[.int .i64 0, .int .i64 0] 48)).heap.size := by simp
    replace HB := Aside0.mk (below_alloc HB.out (Obj.cells #[.int .i64 0, .int .i64 0] 48))
    rw [← z1.out] at hbx
    replace X1 := Aside0.mk (keepB hb X1.out)
    have hbz := Aside0.mk hb
    have hbxz := Aside0.mk hbx
    have hszz := Aside0.mk hsz
    clear hb hbx hsz
    generalize u1.alloc (Obj.cells #[.int .i64 0, .int .i64 0] 48) = u2 at HB hbz hbxz hszz X1 ⊢
    have X2 := hbxz
    have z2 := hszz
    clear hbz hbxz hszz
    have GEX2 := Aside0.mk (show w.heap.size ≤ w.heap.size + 1 from by have qz1_ := z1.out; have qz2_ := z2.out; omega)
    refine (spec_l6Asked.at (g := w.heap.size) k a0_0 a0_1 _ c2 l2 A3 c3 l3 id flt i c _ (Kd.C_below HR2.out HB.out) HC2.out (Kd.C_below HR3.out HB.out) HC3.out HF.out HI.out X1).mono ?_
    rintro e u3 ⟨rfl, hb⟩
    have hsz := hb.size
    replace HB := Aside0.mk (show Below w.heap.size w u3 from below_step HB.out hb)
    replace X1 := Aside0.mk (keepB hb X1.out)
    replace X2 := Aside0.mk (keepB hb X2.out)
    have z3 := Aside0.mk hsz
    clear hsz
    have cX1_0 : u3.cell? ⟨w.heap.size, 0, none⟩ = some (.int .i64 a0_0) := (blk_cell X1.out 0).trans rfl
    have cX1_1 : u3.cell? ⟨w.heap.size, 1, none⟩ = some (.int .i64 a0_1) := (blk_cell X1.out 1).trans rfl
    have cX1_2 : u3.cell? ⟨w.heap.size, 2, none⟩ = some (.slice (some ad) l2.length c2) := (blk_cell X1.out 2).trans rfl
    have cX1_3 : u3.cell? ⟨w.heap.size, 3, none⟩ = some (.slice A3 l3.length c3) := (blk_cell X1.out 3).trans rfl
    have lX1 : w.heap.size < u3.heap.size := blk_lt X1.out
    have nX1 : w.heap.size ≠ u3.heap.size := Nat.ne_of_lt (blk_lt X1.out)
    have cX2_0 : u3.cell? ⟨w.heap.size + 1, 0, none⟩ = some (.int .i64 0) := (blk_cell X2.out 0).trans rfl
    have fX2_0 : u3.frozen? ⟨w.heap.size + 1, 0, none⟩ = false := blk_frozen X2.out 0
    have cX2_1 : u3.cell? ⟨w.heap.size + 1, 1, none⟩ = some (.int .i64 0) := (blk_cell X2.out 1).trans rfl
    have fX2_1 : u3.frozen? ⟨w.heap.size + 1, 1, none⟩ = false := blk_frozen X2.out 1
    have lX2 : w.heap.size + 1 < u3.heap.size := blk_lt X2.out
    have nX2 : w.heap.size + 1 ≠ u3.heap.size := Nat.ne_of_lt (blk_lt X2.out)
    go_wp2_with (go_at_call 71; refine (cKey _ _).mono ?_; rintro e w' ⟨rfl, n, rfl⟩)
    refine (spec_l6View.at (ad.add (i.toNat * 5)) Y.f0 Y.f1 _ (pw_cell_below (pw_below_drewN HB.out _) HW0.out) (pw_cell_below (pw_below_drewN HB.out _) HW1.out)).mono ?_
    rintro e u4 ⟨rfl, hb⟩
    clear cX1_0 cX1_1 cX1_2 cX1_3 lX1 nX1 cX2_0 fX2_0 cX2_1 fX2_1 lX2 nX2
    replace hb : Below u3.heap.size u3 u4 := below_step (pw_below_drewN (Below.refl _ _) _) hb
    have hsz := hb.size
    replace HB := Aside0.mk (show Below w.heap.size w u4 from below_step HB.out hb)
    replace X1 := Aside0.mk (keepB hb X1.out)
    replace X2 := Aside0.mk (keepB hb X2.out)
    have z4 := Aside0.mk hsz
    clear hsz
    go_wp2_with fail
    refine (spec_l6Read.at (g := w.heap.size) k a0_0 a0_1 _ c2 l2 A3 c3 l3 Y.f1 Y.f0 key v1 true _ (Kd.C_below HR2.out HB.out) HC2.out (Kd.C_below HR3.out HB.out) HC3.out HV.out X1).mono ?_
    rintro e u5 ⟨rfl, hb⟩
    have hsz := hb.size
    replace HB := Aside0.mk (show Below w.heap.size w u5 from below_step HB.out hb)
    replace X1 := Aside0.mk (keepB hb X1.out)
    replace X2 := Aside0.mk (keepB hb X2.out)
    have z5 := Aside0.mk hsz
    clear hsz
    have cX2_0 : u5.cell? ⟨w.heap.size + 1, 0, none⟩ = some (.int .i64 0) := (blk_cell X2.out 0).trans rfl
    have fX2_0 : u5.frozen? ⟨w.heap.size + 1, 0, none⟩ = false := blk_frozen X2.out 0
    have cX2_1 : u5.cell? ⟨w.heap.size + 1, 1, none⟩ = some (.int .i64 0) := (blk_cell X2.out 1).trans rfl
    have fX2_1 : u5.frozen? ⟨w.heap.size + 1, 1, none⟩ = false := blk_frozen X2.out 1
    have lX2 : w.heap.size + 1 < u5.heap.size := blk_lt X2.out
    have nX2 : w.heap.size + 1 ≠ u5.heap.size := Nat.ne_of_lt (blk_lt X2.out)
    go_wp2_with fail
    refine bodyPost_ret (results_cell_row rfl _ _ (w.heap.size + 1) 48 #[.int .i64 0, .int .i64 v1] (0, 0) _ rfl (by (with_reducible repeat (first | refine blk_drewN ?_ _ | refine blk_drew ?_ | refine blk_alloc ?_ _)); refine blk_put (cs := #[.int .i64 0, .int .i64 0]) ?_ 1 _ rfl; (with_reducible repeat (first | refine blk_drewN ?_ _ | refine blk_drew ?_ | refine blk_alloc ?_ _)); refine blk_put (cs := #[.int .i64 0, .int .i64 0]) ?_ 0 _ rfl; (with_reducible repeat (first | refine blk_drewN ?_ _ | refine blk_drew ?_ | refine blk_alloc ?_ _)); exact X2.out) Try.underlying48 rfl (by kernel_rfl)) rfl ?_
    exact ⟨rfl, (by repeat (first | (with_reducible first | exact HB.out | apply below_alloc | apply pw_below_drewN | apply below_drew1 | refine below_set ?_ GEX2.out) | exact HB.out))⟩
  ·rw [if_neg (by rw [ck]; decide)] at h
   simp only [Option.some.injEq, Prod.mk.injEq] at h
   obtain ⟨rfl, rfl⟩ := h
   go_enter Try.func28, Try.ntmps28
   go_wp2_with fail
   have hb : Below w.heap.size w (w.alloc (Obj.cells #[.int .i64 a0_0, .int .i64 a0_1, .slice A2 l2.length c2, .slice A3 l3.length c3] 31)) := below_alloc (Below.refl _ _) _
   have hbx := blk_new w (Obj.cells #[.int .i64 a0_0, .int .i64 a0_1, .slice A2 l2.length c2, .slice A3 l3.length c3] 31)
   have hsz : w.heap.size + 1 = (w.alloc (Obj.cells #[.int .i64 a0_0, .int .i64 a0_1, .slice A2 l2.length c2, .slice A3 l3.length c3] 31)).heap.size := by simp
   replace HB := Aside0.mk (below_alloc HB.out (Obj.cells #[.int .i64 a0_0, .int .i64 a0_1, .slice A2 l2.length c2, .slice A3 l3.length c3] 31))
   have hbz := Aside0.mk hb
   have hbxz := Aside0.mk hbx
   have hszz := Aside0.mk hsz
   clear hb hbx hsz
   generalize w.alloc (Obj.cells #[.int .i64 a0_0, .int .i64 a0_1, .slice A2 l2.length c2, .slice A3 l3.length c3] 31) = u1 at HB hbz hbxz hszz ⊢
   have X1 := hbxz
   have z1 := hszz
   clear hbz hbxz hszz
   have hb : Below u1.heap.size u1 (u1.alloc (Obj.cells #[.int .i64 0, .int .i64 0] 48)) := below_alloc (Below.refl _ _) _
   have hbx := blk_new u1 (Obj.cells #[.int .i64 0, .int .i64 0] 48)
   have hsz : u1.heap.size + 1 = (u1.alloc (Obj.cells #[.int .i64 0, .int .i64 0] 48)).heap.size := by simp
   replace HB := Aside0.mk (below_alloc HB.out (Obj.cells #[.int .i64 0, .int .i64 0] 48))
   rw [← z1.out] at hbx
   replace X1 := Aside0.mk (keepB hb X1.out)
   have hbz := Aside0.mk hb
   have hbxz := Aside0.mk hbx
   have hszz := Aside0.mk hsz
   clear hb hbx hsz
   generalize u1.alloc (Obj.cells #[.int .i64 0, .int .i64 0] 48) = u2 at HB hbz hbxz hszz X1 ⊢
   have X2 := hbxz
   have z2 := hszz
   clear hbz hbxz hszz
   have GEX2 := Aside0.mk (show w.heap.size ≤ w.heap.size + 1 from by have qz1_ := z1.out; have qz2_ := z2.out; omega)
   refine (spec_l6Asked.at (g := w.heap.size) k a0_0 a0_1 _ c2 l2 A3 c3 l3 id flt i c _ (Kd.C_below HR2.out HB.out) HC2.out (Kd.C_below HR3.out HB.out) HC3.out HF.out HI.out X1).mono ?_
   rintro e u3 ⟨rfl, hb⟩
   have hsz := hb.size
   replace HB := Aside0.mk (show Below w.heap.size w u3 from below_step HB.out hb)
   replace X1 := Aside0.mk (keepB hb X1.out)
   replace X2 := Aside0.mk (keepB hb X2.out)
   have z3 := Aside0.mk hsz
   clear hsz
   have cX1_0 : u3.cell? ⟨w.heap.size, 0, none⟩ = some (.int .i64 a0_0) := (blk_cell X1.out 0).trans rfl
   have cX1_1 : u3.cell? ⟨w.heap.size, 1, none⟩ = some (.int .i64 a0_1) := (blk_cell X1.out 1).trans rfl
   have cX1_2 : u3.cell? ⟨w.heap.size, 2, none⟩ = some (.slice A2 l2.length c2) := (blk_cell X1.out 2).trans rfl
   have cX1_3 : u3.cell? ⟨w.heap.size, 3, none⟩ = some (.slice A3 l3.length c3) := (blk_cell X1.out 3).trans rfl
   have lX1 : w.heap.size < u3.heap.size := blk_lt X1.out
   have nX1 : w.heap.size ≠ u3.heap.size := Nat.ne_of_lt (blk_lt X1.out)
   have cX2_0 : u3.cell? ⟨w.heap.size + 1, 0, none⟩ = some (.int .i64 0) := (blk_cell X2.out 0).trans rfl
   have fX2_0 : u3.frozen? ⟨w.heap.size + 1, 0, none⟩ = false := blk_frozen X2.out 0
   have cX2_1 : u3.cell? ⟨w.heap.size + 1, 1, none⟩ = some (.int .i64 0) := (blk_cell X2.out 1).trans rfl
   have fX2_1 : u3.frozen? ⟨w.heap.size + 1, 1, none⟩ = false := blk_frozen X2.out 1
   have lX2 : w.heap.size + 1 < u3.heap.size := blk_lt X2.out
   have nX2 : w.heap.size + 1 ≠ u3.heap.size := Nat.ne_of_lt (blk_lt X2.out)
   go_wp2_with (go_at_call 71; refine (cKey _ _).mono ?_; rintro e w' ⟨rfl, n, rfl⟩)
   refine bodyPost_ret (results_cell_row rfl _ _ (w.heap.size + 1) 48 #[.int .i64 3, .int .i64 0] (0, 0) _ rfl (by (with_reducible repeat (first | refine blk_drewN ?_ _ | refine blk_drew ?_ | refine blk_alloc ?_ _)); refine blk_put (cs := #[.int .i64 3, .int .i64 0]) ?_ 1 _ rfl; (with_reducible repeat (first | refine blk_drewN ?_ _ | refine blk_drew ?_ | refine blk_alloc ?_ _)); refine blk_put (cs := #[.int .i64 0, .int .i64 0]) ?_ 0 _ rfl; (with_reducible repeat (first | refine blk_drewN ?_ _ | refine blk_drew ?_ | refine blk_alloc ?_ _)); exact X2.out) Try.underlying48 rfl (by kernel_rfl)) rfl ?_
   exact ⟨rfl, (by repeat (first | (with_reducible first | exact HB.out | apply below_alloc | apply pw_below_drewN | apply below_drew1 | refine below_set ?_ GEX2.out) | exact HB.out))⟩
 ·rw [if_neg c0] at h
  simp only [Option.some.injEq, Prod.mk.injEq] at h
  obtain ⟨rfl, rfl⟩ := h
  have f1 : (c == 0) = false := beq_eq_false_iff_ne.2 c0
  have f2 : (c != 0) = true := bne_iff_ne.2 c0
  go_enter Try.func28, Try.ntmps28
  go_wp2_with fail
  have hb : Below w.heap.size w (w.alloc (Obj.cells #[.int .i64 a0_0, .int .i64 a0_1, .slice A2 l2.length c2, .slice A3 l3.length c3] 31)) := below_alloc (Below.refl _ _) _
  have hbx := blk_new w (Obj.cells #[.int .i64 a0_0, .int .i64 a0_1, .slice A2 l2.length c2, .slice A3 l3.length c3] 31)
  have hsz : w.heap.size + 1 = (w.alloc (Obj.cells #[.int .i64 a0_0, .int .i64 a0_1, .slice A2 l2.length c2, .slice A3 l3.length c3] 31)).heap.size := by simp
  replace HB := Aside0.mk (below_alloc HB.out (Obj.cells #[.int .i64 a0_0, .int .i64 a0_1, .slice A2 l2.length c2, .slice A3 l3.length c3] 31))
  have hbz := Aside0.mk hb
  have hbxz := Aside0.mk hbx
  have hszz := Aside0.mk hsz
  clear hb hbx hsz
  generalize w.alloc (Obj.cells #[.int .i64 a0_0, .int .i64 a0_1, .slice A2 l2.length c2, .slice A3 l3.length c3] 31) = u1 at HB hbz hbxz hszz ⊢
  have X1 := hbxz
  have z1 := hszz
  clear hbz hbxz hszz
  have hb : Below u1.heap.size u1 (u1.alloc (Obj.cells #[.int .i64 0, .int .i64 0] 48)) := below_alloc (Below.refl _ _) _
  have hbx := blk_new u1 (Obj.cells #[.int .i64 0, .int .i64 0] 48)
  have hsz : u1.heap.size + 1 = (u1.alloc (Obj.cells #[.int .i64 0, .int .i64 0] 48)).heap.size := by simp
  replace HB := Aside0.mk (below_alloc HB.out (Obj.cells #[.int .i64 0, .int .i64 0] 48))
  rw [← z1.out] at hbx
  replace X1 := Aside0.mk (keepB hb X1.out)
  have hbz := Aside0.mk hb
  have hbxz := Aside0.mk hbx
  have hszz := Aside0.mk hsz
  clear hb hbx hsz
  generalize u1.alloc (Obj.cells #[.int .i64 0, .int .i64 0] 48) = u2 at HB hbz hbxz hszz X1 ⊢
  have X2 := hbxz
  have z2 := hszz
  clear hbz hbxz hszz
  have GEX2 := Aside0.mk (show w.heap.size ≤ w.heap.size + 1 from by have qz1_ := z1.out; have qz2_ := z2.out; omega)
  refine (spec_l6Asked.at (g := w.heap.size) k a0_0 a0_1 _ c2 l2 A3 c3 l3 id flt i c _ (Kd.C_below HR2.out HB.out) HC2.out (Kd.C_below HR3.out HB.out) HC3.out HF.out HI.out X1).mono ?_
  rintro e u3 ⟨rfl, hb⟩
  have hsz := hb.size
  replace HB := Aside0.mk (show Below w.heap.size w u3 from below_step HB.out hb)
  replace X1 := Aside0.mk (keepB hb X1.out)
  replace X2 := Aside0.mk (keepB hb X2.out)
  have z3 := Aside0.mk hsz
  clear hsz
  have cX1_0 : u3.cell? ⟨w.heap.size, 0, none⟩ = some (.int .i64 a0_0) := (blk_cell X1.out 0).trans rfl
  have cX1_1 : u3.cell? ⟨w.heap.size, 1, none⟩ = some (.int .i64 a0_1) := (blk_cell X1.out 1).trans rfl
  have cX1_2 : u3.cell? ⟨w.heap.size, 2, none⟩ = some (.slice A2 l2.length c2) := (blk_cell X1.out 2).trans rfl
  have cX1_3 : u3.cell? ⟨w.heap.size, 3, none⟩ = some (.slice A3 l3.length c3) := (blk_cell X1.out 3).trans rfl
  have lX1 : w.heap.size < u3.heap.size := blk_lt X1.out
  have nX1 : w.heap.size ≠ u3.heap.size := Nat.ne_of_lt (blk_lt X1.out)
  have cX2_0 : u3.cell? ⟨w.heap.size + 1, 0, none⟩ = some (.int .i64 0) := (blk_cell X2.out 0).trans rfl
  have fX2_0 : u3.frozen? ⟨w.heap.size + 1, 0, none⟩ = false := blk_frozen X2.out 0
  have cX2_1 : u3.cell? ⟨w.heap.size + 1, 1, none⟩ = some (.int .i64 0) := (blk_cell X2.out 1).trans rfl
  have fX2_1 : u3.frozen? ⟨w.heap.size + 1, 1, none⟩ = false := blk_frozen X2.out 1
  have lX2 : w.heap.size + 1 < u3.heap.size := blk_lt X2.out
  have nX2 : w.heap.size + 1 ≠ u3.heap.size := Nat.ne_of_lt (blk_lt X2.out)
  go_wp2_with fail
  refine bodyPost_ret (results_cell_row rfl _ _ (w.heap.size + 1) 48 #[.int .i64 c, .int .i64 0] (0, 0) _ rfl (by (with_reducible repeat (first | refine blk_drewN ?_ _ | refine blk_drew ?_ | refine blk_alloc ?_ _)); refine blk_put (cs := #[.int .i64 c, .int .i64 0]) ?_ 1 _ rfl; (with_reducible repeat (first | refine blk_drewN ?_ _ | refine blk_drew ?_ | refine blk_alloc ?_ _)); refine blk_put (cs := #[.int .i64 0, .int .i64 0]) ?_ 0 _ rfl; (with_reducible repeat (first | refine blk_drewN ?_ _ | refine blk_drew ?_ | refine blk_alloc ?_ _)); exact X2.out) Try.underlying48 rfl (by kernel_rfl)) rfl ?_
  exact ⟨rfl, (by repeat (first | (with_reducible first | exact HB.out | apply below_alloc | apply pw_below_drewN | apply below_drew1 | refine below_set ?_ GEX2.out) | exact HB.out))⟩


/-! ### impl_ReadKey: function 29 -/
-- PROOF --
-- NEEDS Derived.Test.YtonbnmaelepcbaaLb
-- NEEDS Derived.Test.YtonbnmaelepcbaaLv
-- NEEDS Derived.IntWalk
-- NEEDS Derived.Shelf.Abstract
set_option maxHeartbeats 8000000 in
set_option maxRecDepth 100000 in
theorem impl_ReadKey.calls (k : Nat) (a0_0 a0_1 : Int) (A2 : Option Addr) (c2 : Nat) (l2 : List S83) (A3 : Option Addr) (c3 : Nat) (l3 : List S87) (id key r1 r2 : Int) (w : World) (hr2 : Kd.C k83 w A2 l2.length l2) (hc2 : l2.length ≤ c2) (hr3 : Kd.C k87 w A3 l3.length l3) (hc3 : l3.length ≤ c3) (h : impl_ReadKey.f k a0_0 a0_1 l2 l3 id key = some (r1, r2)) :
  Calls Try.prog 29 #[.agg #[.int .i64 a0_0, .int .i64 a0_1, .slice A2 l2.length c2, .slice A3 l3.length c3], .int .i64 id, .int .i64 key] w fun e w' => e = .returned (.agg #[.int .i64 r1, .int .i64 r2]) ∧ Below w.heap.size w w' := by
 have hu31 := Try.underlying31
 have hu48 := Try.underlying48
 have hu83 := Try.underlying83
 have HB := Aside0.mk (Below.refl w.heap.size w)
 have HR2 := Aside0.mk hr2
 have HR3 := Aside0.mk hr3
 have HC2 := Aside0.mk hc2
 have HC3 := Aside0.mk hc3
 have hn2 := hr2.2.1
 have hn3 := hr3.2.1
 clear hr2 hr3 hc2 hc3
 unfold impl_ReadKey.f at h
 obtain ⟨flt, hf, h⟩ := Option.bind_eq_some_iff.mp h
 have HF := Aside0.mk hf
 clear hf
 have hok := @etxF_ok l2 id
 obtain ⟨c, hi⟩ : ∃ q, etxF l2 id = q := ⟨_, rfl⟩
 rw [hi] at h hok
 have HI := Aside0.mk hi
 clear hi
 obtain ⟨i, hx⟩ : ∃ x, Lb.idx (fun u : S83 => u.f0 == id) l2 = x := ⟨_, rfl⟩
 rw [hx] at h hok
 have HX := Aside0.mk hx
 clear hx
 by_cases f0 : flt = 0
 ·rw [if_pos f0] at h
  have f1 : (flt == 0) = true := beq_iff_eq.2 f0
  have f2 : (flt != 0) = false := bne_eq_false_iff_eq.2 f0
  have F0 := Aside0.mk f0
  by_cases c0 : c = 0
  ·rw [if_pos c0] at h
   have e1 : (c == 0) = true := beq_iff_eq.2 c0
   have e2 : (c != 0) = false := bne_eq_false_iff_eq.2 c0
   obtain ⟨i0, i1⟩ := hok c0
   rcases hb_ (inB key 0 31) with ck | ck
   ·rw [if_pos ck] at h
    obtain ⟨Y, hY⟩ : ∃ x, x = l2.getD i.toNat z83 := ⟨_, rfl⟩
    rw [← hY] at h
    have HV := Aside0.mk h
    clear h
    have HY := Aside0.mk hY
    clear hY
    obtain ⟨ad, A4, c4, ea, hw0, hw1, hw2, hw3, hw4, hc4, hK4⟩ := at_T83 HR2.out i i0 i1
    cases ea
    rw [show rd_T83 l2 i = Y from HY.out.symm] at hw0 hw1 hw2 hw3 hw4 hc4 hK4
    have HW0 := Aside0.mk hw0
    have HW1 := Aside0.mk hw1
    have HW2 := Aside0.mk hw2
    have HW3 := Aside0.mk hw3
    have HW4 := Aside0.mk hw4
    have HC4 := Aside0.mk hc4
    have HK4 := Aside0.mk hK4
    clear hw0 hw1 hw2 hw3 hw4 hc4 hK4
    go_enter Try.func29, Try.ntmps29
    go_wp2_with fail
    have hb : Below w.heap.size w (w.alloc (Obj.cells #[.int .i64 a0_0, .int .i64 a0_1, .slice (some ad) l2.length c2, .slice A3 l3.length c3] 31)) := below_alloc (Below.refl _ _) _
    have hbx := blk_new w (Obj.cells #[.int .i64 a0_0, .int .i64 a0_1, .slice (some ad) l2.length c2, .slice A3 l3.length c3] 31)
    have hsz : w.heap.size + 1 = (w.alloc (Obj.cells #[.int .i64 a0_0, .int .i64 a0_1, .slice (some ad) l2.length c2, .slice A3 l3.length c3] 31)).heap.size := by simp
    replace HB := Aside0.mk (below_alloc HB.out (Obj.cells #[.int .i64 a0_0, .int .i64 a0_1, .slice (some ad) l2.length c2, .slice A3 l3.length c3] 31))
    have hbz := Aside0.mk hb
    have hbxz := Aside0.mk hbx
    have hszz := Aside0.mk hsz
    clear hb hbx hsz
    generalize w.alloc (Obj.cells #[.int .i64 a0_0, .int .i64 a0_1, .slice (some ad) l2.length c2, .slice A3 l3.length c3] 31) = u1 at HB hbz hbxz hszz ⊢
    have X1 := hbxz
    have z1 := hszz
    clear hbz hbxz hszz
    have hb : Below u1.heap.size u1 (u1.alloc (Obj.cells #[.int .i64 0, .int .i64 0] 48)) := below_alloc (Below.refl _ _) _
    have hbx := blk_new u1 (Obj.cells #[.int .i64 0, .int .i64 0] 48)
    have hsz : u1.heap.size + 1 = (u1.alloc (Obj.cells #[.int .i64 0, .int .i64 0] 48)).heap.size := by simp
    replace HB := Aside0.mk (below_alloc HB.out (Obj.cells #[.int .i64 0, .int .i64 0] 48))
    rw [← z1.out] at hbx
    replace X1 := Aside0.mk (keepB hb X1.out)
    have hbz := Aside0.mk hb
    have hbxz := Aside0.mk hbx
    have hszz := Aside0.mk hsz
    clear hb hbx hsz
    generalize u1.alloc (Obj.cells #[.int .i64 0, .int .i64 0] 48) = u2 at HB hbz hbxz hszz X1 ⊢
    have X2 := hbxz
    have z2 := hszz
    clear hbz hbxz hszz
    have GEX2 := Aside0.mk (show w.heap.size ≤ w.heap.size + 1 from by have qz1_ := z1.out; have qz2_ := z2.out; omega)
    refine (impl_EngineFault.calls k a0_0 a0_1 _ c2 l2 _ c3 l3 flt _ (Kd.C_below HR2.out HB.out) HC2.out (Kd.C_below HR3.out HB.out) HC3.out HF.out).mono ?_
    rintro e u3 ⟨rfl, hb⟩
    have hsz := hb.size
    replace HB := Aside0.mk (show Below w.heap.size w u3 from below_step HB.out hb)
    replace X1 := Aside0.mk (keepB hb X1.out)
    replace X2 := Aside0.mk (keepB hb X2.out)
    have z3 := Aside0.mk hsz
    clear hsz
    have cX1_0 : u3.cell? ⟨w.heap.size, 0, none⟩ = some (.int .i64 a0_0) := (blk_cell X1.out 0).trans rfl
    have cX1_1 : u3.cell? ⟨w.heap.size, 1, none⟩ = some (.int .i64 a0_1) := (blk_cell X1.out 1).trans rfl
    have cX1_2 : u3.cell? ⟨w.heap.size, 2, none⟩ = some (.slice (some ad) l2.length c2) := (blk_cell X1.out 2).trans rfl
    have cX1_3 : u3.cell? ⟨w.heap.size, 3, none⟩ = some (.slice A3 l3.length c3) := (blk_cell X1.out 3).trans rfl
    have lX1 : w.heap.size < u3.heap.size := blk_lt X1.out
    have nX1 : w.heap.size ≠ u3.heap.size := Nat.ne_of_lt (blk_lt X1.out)
    have cX2_0 : u3.cell? ⟨w.heap.size + 1, 0, none⟩ = some (.int .i64 0) := (blk_cell X2.out 0).trans rfl
    have fX2_0 : u3.frozen? ⟨w.heap.size + 1, 0, none⟩ = false := blk_frozen X2.out 0
    have cX2_1 : u3.cell? ⟨w.heap.size + 1, 1, none⟩ = some (.int .i64 0) := (blk_cell X2.out 1).trans rfl
    have fX2_1 : u3.frozen? ⟨w.heap.size + 1, 1, none⟩ = false := blk_frozen X2.out 1
    have lX2 : w.heap.size + 1 < u3.heap.size := blk_lt X2.out
    have nX2 : w.heap.size + 1 ≠ u3.heap.size := Nat.ne_of_lt (blk_lt X2.out)
    go_wp2_with fail
    refine (impl_Engine_txn.at (g := w.heap.size) a0_0 a0_1 _ c2 l2 A3 c3 l3 id _ (Kd.C_below HR2.out HB.out) HC2.out (Kd.C_below HR3.out HB.out) HC3.out X1).mono ?_
    rintro e u4 ⟨⟨p, rfl, hp⟩, hb⟩
    clear cX1_0 cX1_1 cX1_2 cX1_3 lX1 nX1 cX2_0 fX2_0 cX2_1 fX2_1 lX2 nX2
    have hsz := hb.size
    replace HB := Aside0.mk (show Below w.heap.size w u4 from below_step HB.out hb)
    replace X1 := Aside0.mk (keepB hb X1.out)
    replace X2 := Aside0.mk (keepB hb X2.out)
    have z4 := Aside0.mk hsz
    clear hsz
    rw [HI.out] at hp ⊢
    rw [HX.out] at hp
    have cX1_0 : u4.cell? ⟨w.heap.size, 0, none⟩ = some (.int .i64 a0_0) := (blk_cell X1.out 0).trans rfl
    have cX1_1 : u4.cell? ⟨w.heap.size, 1, none⟩ = some (.int .i64 a0_1) := (blk_cell X1.out 1).trans rfl
    have cX1_2 : u4.cell? ⟨w.heap.size, 2, none⟩ = some (.slice (some ad) l2.length c2) := (blk_cell X1.out 2).trans rfl
    have cX1_3 : u4.cell? ⟨w.heap.size, 3, none⟩ = some (.slice A3 l3.length c3) := (blk_cell X1.out 3).trans rfl
    have lX1 : w.heap.size < u4.heap.size := blk_lt X1.out
    have nX1 : w.heap.size ≠ u4.heap.size := Nat.ne_of_lt (blk_lt X1.out)
    have cX2_0 : u4.cell? ⟨w.heap.size + 1, 0, none⟩ = some (.int .i64 0) := (blk_cell X2.out 0).trans rfl
    have fX2_0 : u4.frozen? ⟨w.heap.size + 1, 0, none⟩ = false := blk_frozen X2.out 0
    have cX2_1 : u4.cell? ⟨w.heap.size + 1, 1, none⟩ = some (.int .i64 0) := (blk_cell X2.out 1).trans rfl
    have fX2_1 : u4.frozen? ⟨w.heap.size + 1, 1, none⟩ = false := blk_frozen X2.out 1
    have lX2 : w.heap.size + 1 < u4.heap.size := blk_lt X2.out
    have nX2 : w.heap.size + 1 ≠ u4.heap.size := Nat.ne_of_lt (blk_lt X2.out)
    obtain ⟨ad', ea, ep⟩ := hp c0
    cases ea
    subst ep
    go_wp2_with (go_at_call 57; refine (cKy _ _).mono ?_; rintro e w' ⟨rfl, n, rfl⟩)
    clear cX1_0 cX1_1 cX1_2 cX1_3 lX1 nX1 cX2_0 fX2_0 cX2_1 fX2_1 lX2 nX2
    have hb : Below u4.heap.size u4 (u4.drewN n) := pw_below_drewN (Below.refl _ _) n
    have hsz := hb.size
    replace HB := Aside0.mk (show Below w.heap.size w (u4.drewN n) from below_step HB.out hb)
    replace X1 := Aside0.mk (keepB hb X1.out)
    replace X2 := Aside0.mk (keepB hb X2.out)
    have z5 := Aside0.mk hsz
    clear hsz hb
    generalize u4.drewN n = u5 at HB z5 X1 X2 ⊢
    refine start_ (n := 9) (S := fun W_ => W_.cell? ⟨w.heap.size, 0, none⟩ = some (.int .i64 a0_0) ∧ W_.cell? ⟨w.heap.size, 1, none⟩ = some (.int .i64 a0_1) ∧ W_.cell? ⟨w.heap.size, 2, none⟩ = some (.slice (some ad) l2.length c2) ∧ W_.cell? ⟨w.heap.size, 3, none⟩ = some (.slice A3 l3.length c3) ∧ W_.cell? (ad.add (i.toNat * 5)) = some (.int .i64 Y.f0) ∧ W_.cell? ⟨(ad.add (i.toNat * 5)).block, (ad.add (i.toNat * 5)).off + 1, none⟩ = some (.int .i64 Y.f1) ∧ W_.cell? ⟨(ad.add (i.toNat * 5)).block, (ad.add (i.toNat * 5)).off + 2, none⟩ = some (.int .i64 Y.f2) ∧ W_.cell? ⟨(ad.add (i.toNat * 5)).block, (ad.add (i.toNat * 5)).off + 3, none⟩ = some (.int .i64 Y.f3) ∧ W_.cell? ⟨(ad.add (i.toNat * 5)).block, (ad.add (i.toNat * 5)).off + 4, none⟩ = some (.slice A4 Y.f4.length c4)) (ds := [8]) #[false, false, false, false, false, false, false, false, false] (by kernel_rfl) rfl rfl ⟨(blk_cell X1.out 0).trans rfl, (blk_cell X1.out 1).trans rfl, (blk_cell X1.out 2).trans rfl, (blk_cell X1.out 3).trans rfl, pw_cell_below HB.out HW0.out, pw_cell_below HB.out HW1.out, pw_cell_below HB.out HW2.out, pw_cell_below HB.out HW3.out, pw_cell_below HB.out HW4.out⟩ (fun hHeld => ?_)
    refine pure_ (i := 1) (N := some 33) (v := ?_) (a' := ?_) #[false, true, false, false, false, false, false, false, false] rfl rfl (by kernel_rfl) (fun _ _ _ h => h) (Or.inl ⟨by rfl, ?_⟩) ?_ ?_
    rotate_left
    ·intro w'
     go_simp
     with_reducible rfl
    rotate_left
    ·simp only [Act.put, List.setIfInBounds_toArray, List.set_cons_zero, List.set_cons_succ, i64_w, i32_w]
     rfl
    refine pure_ (i := 3) (N := some 35) (v := ?_) (a' := ?_) #[false, true, false, true, false, false, false, false, false] rfl rfl (by kernel_rfl) (fun _ _ _ h => h) (Or.inl ⟨by rfl, ?_⟩) ?_ ?_
    rotate_left
    ·intro w'
     go_simp
     with_reducible rfl
    rotate_left
    ·simp only [Act.put, List.setIfInBounds_toArray, List.set_cons_zero, List.set_cons_succ, i64_w, i32_w]
     rfl
    refine pure_ (i := 4) (N := some 36) (v := ?_) (a' := ?_) #[false, true, false, true, true, false, false, false, false] rfl rfl (by kernel_rfl) (fun _ _ _ h => h) (Or.inl ⟨by rfl, ?_⟩) ?_ ?_
    rotate_left
    ·intro w'
     go_simp
     with_reducible rfl
    rotate_left
    ·simp only [Act.put, List.setIfInBounds_toArray, List.set_cons_zero, List.set_cons_succ, i64_w, i32_w]
     rfl
    refine take_ (i := 0) (N := some 32) (v := ?_) (a' := ?_) #[true, true, false, true, true, false, false, false, false] rfl rfl (by kernel_rfl) (fun _ _ _ h => h) (Or.inl ⟨by rfl, ?_⟩) hHeld ?_ ?_
    rotate_left
    ·rintro w' ⟨s0_, s1_, s2_, s3_, s4_, s5_, s6_, s7_, s8_⟩
     go_simp
     with_reducible rfl
    rotate_left
    ·simp only [Act.put, List.setIfInBounds_toArray, List.set_cons_zero, List.set_cons_succ, i64_w, i32_w]
     rfl
    refine take_ (i := 5) (N := some 37) (v := ?_) (a' := ?_) #[true, true, false, true, true, true, false, false, false] rfl rfl (by kernel_rfl) (fun _ _ _ h => h) (Or.inl ⟨by rfl, ?_⟩) hHeld ?_ ?_
    rotate_left
    ·rintro w' ⟨s0_, s1_, s2_, s3_, s4_, s5_, s6_, s7_, s8_⟩
     go_simp
     with_reducible rfl
    rotate_left
    ·simp only [Act.put, List.setIfInBounds_toArray, List.set_cons_zero, List.set_cons_succ, i64_w, i32_w]
     rfl
    refine one_ (i := 2) (N := some 34) #[true, true, true, true, true, true, false, false, false] rfl rfl (by kernel_rfl) (by decide) (fun K hK => ?_)
    refine goes_ Try.func67 (by kernel_rfl) rfl #[.agg #[.int .i64 a0_0, .int .i64 a0_1, .slice (some ad) l2.length c2, .slice A3 l3.length c3], .int .i64 key] (by rfl) rfl rfl (by (try simp only [List.map_toArray, List.map_cons, List.map_nil]); first | done | rfl) ?_
    with_reducible refine (impl_Engine_chain.at a0_0 a0_1 (some ad) c2 l2 A3 c3 l3 key _ (Kd.C_drew (Kd.C_below HR3.out HB.out))).mono ?_
    rintro e ua ⟨AC, cC, rfl, hcl, hcr, hb⟩
    refine ⟨_, rfl, ?_⟩
    replace hb : Below u5.heap.size u5 ua := below_step (below_drew (Below.refl _ _)) hb
    replace HB := Aside0.mk (show Below w.heap.size w ua from below_step HB.out hb)
    replace X1 := Aside0.mk (keepB hb X1.out)
    replace X2 := Aside0.mk (keepB hb X2.out)
    have HCR := Aside0.mk hcr
    have HCC := Aside0.mk hcl
    clear hcr hcl hb
    refine hK.out _ _ ⟨(blk_cell X1.out 0).trans rfl, (blk_cell X1.out 1).trans rfl, (blk_cell X1.out 2).trans rfl, (blk_cell X1.out 3).trans rfl, pw_cell_below HB.out HW0.out, pw_cell_below HB.out HW1.out, pw_cell_below HB.out HW2.out, pw_cell_below HB.out HW3.out, pw_cell_below HB.out HW4.out⟩ (fun hHeld => ?_)
    clear hK K
    refine norm_ (a' := ?_) ?_ ?_
    rotate_left
    ·show Act.put _ (some 34) _ = _
     simp only [Act.put, List.setIfInBounds_toArray, List.set_cons_zero, List.set_cons_succ, i64_w, i32_w]
     rfl
    refine one_ (i := 6) (N := some 38) #[true, true, true, true, true, true, true, false, false] rfl rfl (by kernel_rfl) (by decide) (fun K hK => ?_)
    refine goes_ Try.func84 (by kernel_rfl) rfl #[.agg #[.int .i64 Y.f0, .int .i64 Y.f1, .int .i64 Y.f2, .int .i64 Y.f3, .slice A4 Y.f4.length c4]] (by rfl) rfl rfl (by (try simp only [List.map_toArray, List.map_cons, List.map_nil]); first | done | rfl) ?_
    with_reducible refine (impl_Txn_view.calls Y.f0 Y.f1 Y.f2 Y.f3 A4 c4 Y.f4 Y.f1 Y.f0 _ (Kd.C_below HK4.out HB.out) HC4.out rfl).mono ?_
    rintro e ub ⟨rfl, hb⟩
    refine ⟨_, rfl, ?_⟩
    replace HB := Aside0.mk (show Below w.heap.size w ub from below_step HB.out hb)
    replace X1 := Aside0.mk (keepB hb X1.out)
    replace X2 := Aside0.mk (keepB hb X2.out)
    replace HCR := Aside0.mk (Kd.C_below HCR.out hb)
    clear hb
    refine hK.out _ _ ⟨(blk_cell X1.out 0).trans rfl, (blk_cell X1.out 1).trans rfl, (blk_cell X1.out 2).trans rfl, (blk_cell X1.out 3).trans rfl, pw_cell_below HB.out HW0.out, pw_cell_below HB.out HW1.out, pw_cell_below HB.out HW2.out, pw_cell_below HB.out HW3.out, pw_cell_below HB.out HW4.out⟩ (fun hHeld => ?_)
    clear hK K
    refine norm_ (a' := ?_) ?_ ?_
    rotate_left
    ·show Act.put _ (some 38) _ = _
     simp only [Act.put, List.setIfInBounds_toArray, List.set_cons_zero, List.set_cons_succ, i64_w, i32_w]
     rfl
    refine one_ (i := 7) (N := some 39) #[true, true, true, true, true, true, true, true, false] rfl rfl (by kernel_rfl) (by decide) (fun K hK => ?_)
    refine goes_ Try.func83 (by kernel_rfl) rfl #[.slice AC (chainF l3 key).length cC, .agg #[.int .i64 Y.f1, .int .i64 Y.f0]] (by rfl) rfl rfl (by (try simp only [List.map_toArray, List.map_cons, List.map_nil]); first | done | rfl) ?_
    with_reducible refine (impl_seenValue.calls AC cC (chainF l3 key) Y.f1 Y.f0 r1 r2 _ HCR.out HCC.out HV.out).mono ?_
    rintro e uc ⟨rfl, hb⟩
    refine ⟨_, rfl, ?_⟩
    replace HB := Aside0.mk (show Below w.heap.size w uc from below_step HB.out hb)
    replace X1 := Aside0.mk (keepB hb X1.out)
    replace X2 := Aside0.mk (keepB hb X2.out)
    clear hb
    refine hK.out _ _ ⟨(blk_cell X1.out 0).trans rfl, (blk_cell X1.out 1).trans rfl, (blk_cell X1.out 2).trans rfl, (blk_cell X1.out 3).trans rfl, pw_cell_below HB.out HW0.out, pw_cell_below HB.out HW1.out, pw_cell_below HB.out HW2.out, pw_cell_below HB.out HW3.out, pw_cell_below HB.out HW4.out⟩ (fun hHeld => ?_)
    clear hK K
    refine norm_ (a' := ?_) ?_ ?_
    rotate_left
    ·show Act.put _ (some 39) _ = _
     simp only [Act.put, List.setIfInBounds_toArray, List.set_cons_zero, List.set_cons_succ, i64_w, i32_w]
     rfl
    have cR_0 : uc.cell? ⟨w.heap.size + 1, 0, none⟩ = some (.int .i64 0) := (blk_cell X2.out 0).trans rfl
    have fR_0 : uc.frozen? ⟨w.heap.size + 1, 0, none⟩ = false := blk_frozen X2.out 0
    have cR_1 : uc.cell? ⟨w.heap.size + 1, 1, none⟩ = some (.int .i64 0) := (blk_cell X2.out 1).trans rfl
    have fR_1 : uc.frozen? ⟨w.heap.size + 1, 1, none⟩ = false := blk_frozen X2.out 1
    refine last_ (i := 8) (N := none) #[true, true, true, true, true, true, true, true, true] rfl rfl (by kernel_rfl) (by decide) (fun K hK => ?_)
    refine skip_ (w1 := ?_) (by rfl) rfl ?_ ?_
    rotate_left
    ·go_simp
     rfl
    refine hK.out _ _ ?_
    clear hK K
    refine done_ (by kernel_rfl) ?_
    go_wp2_with fail
    refine bodyPost_ret (results_cell_row rfl _ _ (w.heap.size + 1) 48 #[.int .i64 r1, .int .i64 r2] (0, 0) _ rfl (by (with_reducible repeat (first | refine blk_drewN ?_ _ | refine blk_drew ?_ | refine blk_alloc ?_ _)); refine blk_put (cs := #[.int .i64 r1, .int .i64 0]) ?_ 1 _ rfl; (with_reducible repeat (first | refine blk_drewN ?_ _ | refine blk_drew ?_ | refine blk_alloc ?_ _)); refine blk_put (cs := #[.int .i64 0, .int .i64 0]) ?_ 0 _ rfl; (with_reducible repeat (first | refine blk_drewN ?_ _ | refine blk_drew ?_ | refine blk_alloc ?_ _)); exact X2.out) Try.underlying48 rfl (by kernel_rfl)) rfl ?_
    exact ⟨rfl, (by repeat (first | (with_reducible first | exact HB.out | apply below_alloc | apply pw_below_drewN | apply below_drew1 | refine below_set ?_ GEX2.out) | exact HB.out))⟩
   ·rw [if_neg (by rw [ck]; decide)] at h
    simp only [Option.some.injEq, Prod.mk.injEq] at h
    obtain ⟨rfl, rfl⟩ := h
    go_enter Try.func29, Try.ntmps29
    go_wp2_with fail
    have hb : Below w.heap.size w (w.alloc (Obj.cells #[.int .i64 a0_0, .int .i64 a0_1, .slice A2 l2.length c2, .slice A3 l3.length c3] 31)) := below_alloc (Below.refl _ _) _
    have hbx := blk_new w (Obj.cells #[.int .i64 a0_0, .int .i64 a0_1, .slice A2 l2.length c2, .slice A3 l3.length c3] 31)
    have hsz : w.heap.size + 1 = (w.alloc (Obj.cells #[.int .i64 a0_0, .int .i64 a0_1, .slice A2 l2.length c2, .slice A3 l3.length c3] 31)).heap.size := by simp
    replace HB := Aside0.mk (below_alloc HB.out (Obj.cells #[.int .i64 a0_0, .int .i64 a0_1, .slice A2 l2.length c2, .slice A3 l3.length c3] 31))
    have hbz := Aside0.mk hb
    have hbxz := Aside0.mk hbx
    have hszz := Aside0.mk hsz
    clear hb hbx hsz
    generalize w.alloc (Obj.cells #[.int .i64 a0_0, .int .i64 a0_1, .slice A2 l2.length c2, .slice A3 l3.length c3] 31) = u1 at HB hbz hbxz hszz ⊢
    have X1 := hbxz
    have z1 := hszz
    clear hbz hbxz hszz
    have hb : Below u1.heap.size u1 (u1.alloc (Obj.cells #[.int .i64 0, .int .i64 0] 48)) := below_alloc (Below.refl _ _) _
    have hbx := blk_new u1 (Obj.cells #[.int .i64 0, .int .i64 0] 48)
    have hsz : u1.heap.size + 1 = (u1.alloc (Obj.cells #[.int .i64 0, .int .i64 0] 48)).heap.size := by simp
    replace HB := Aside0.mk (below_alloc HB.out (Obj.cells #[.int .i64 0, .int .i64 0] 48))
    rw [← z1.out] at hbx
    replace X1 := Aside0.mk (keepB hb X1.out)
    have hbz := Aside0.mk hb
    have hbxz := Aside0.mk hbx
    have hszz := Aside0.mk hsz
    clear hb hbx hsz
    generalize u1.alloc (Obj.cells #[.int .i64 0, .int .i64 0] 48) = u2 at HB hbz hbxz hszz X1 ⊢
    have X2 := hbxz
    have z2 := hszz
    clear hbz hbxz hszz
    have GEX2 := Aside0.mk (show w.heap.size ≤ w.heap.size + 1 from by have qz1_ := z1.out; have qz2_ := z2.out; omega)
    refine (impl_EngineFault.calls k a0_0 a0_1 _ c2 l2 _ c3 l3 flt _ (Kd.C_below HR2.out HB.out) HC2.out (Kd.C_below HR3.out HB.out) HC3.out HF.out).mono ?_
    rintro e u3 ⟨rfl, hb⟩
    have hsz := hb.size
    replace HB := Aside0.mk (show Below w.heap.size w u3 from below_step HB.out hb)
    replace X1 := Aside0.mk (keepB hb X1.out)
    replace X2 := Aside0.mk (keepB hb X2.out)
    have z3 := Aside0.mk hsz
    clear hsz
    have cX1_0 : u3.cell? ⟨w.heap.size, 0, none⟩ = some (.int .i64 a0_0) := (blk_cell X1.out 0).trans rfl
    have cX1_1 : u3.cell? ⟨w.heap.size, 1, none⟩ = some (.int .i64 a0_1) := (blk_cell X1.out 1).trans rfl
    have cX1_2 : u3.cell? ⟨w.heap.size, 2, none⟩ = some (.slice A2 l2.length c2) := (blk_cell X1.out 2).trans rfl
    have cX1_3 : u3.cell? ⟨w.heap.size, 3, none⟩ = some (.slice A3 l3.length c3) := (blk_cell X1.out 3).trans rfl
    have lX1 : w.heap.size < u3.heap.size := blk_lt X1.out
    have nX1 : w.heap.size ≠ u3.heap.size := Nat.ne_of_lt (blk_lt X1.out)
    have cX2_0 : u3.cell? ⟨w.heap.size + 1, 0, none⟩ = some (.int .i64 0) := (blk_cell X2.out 0).trans rfl
    have fX2_0 : u3.frozen? ⟨w.heap.size + 1, 0, none⟩ = false := blk_frozen X2.out 0
    have cX2_1 : u3.cell? ⟨w.heap.size + 1, 1, none⟩ = some (.int .i64 0) := (blk_cell X2.out 1).trans rfl
    have fX2_1 : u3.frozen? ⟨w.heap.size + 1, 1, none⟩ = false := blk_frozen X2.out 1
    have lX2 : w.heap.size + 1 < u3.heap.size := blk_lt X2.out
    have nX2 : w.heap.size + 1 ≠ u3.heap.size := Nat.ne_of_lt (blk_lt X2.out)
    go_wp2_with fail
    refine (impl_Engine_txn.at (g := w.heap.size) a0_0 a0_1 _ c2 l2 A3 c3 l3 id _ (Kd.C_below HR2.out HB.out) HC2.out (Kd.C_below HR3.out HB.out) HC3.out X1).mono ?_
    rintro e u4 ⟨⟨p, rfl, hp⟩, hb⟩
    clear cX1_0 cX1_1 cX1_2 cX1_3 lX1 nX1 cX2_0 fX2_0 cX2_1 fX2_1 lX2 nX2
    have hsz := hb.size
    replace HB := Aside0.mk (show Below w.heap.size w u4 from below_step HB.out hb)
    replace X1 := Aside0.mk (keepB hb X1.out)
    replace X2 := Aside0.mk (keepB hb X2.out)
    have z4 := Aside0.mk hsz
    clear hsz
    rw [HI.out] at hp ⊢
    rw [HX.out] at hp
    have cX1_0 : u4.cell? ⟨w.heap.size, 0, none⟩ = some (.int .i64 a0_0) := (blk_cell X1.out 0).trans rfl
    have cX1_1 : u4.cell? ⟨w.heap.size, 1, none⟩ = some (.int .i64 a0_1) := (blk_cell X1.out 1).trans rfl
    have cX1_2 : u4.cell? ⟨w.heap.size, 2, none⟩ = some (.slice A2 l2.length c2) := (blk_cell X1.out 2).trans rfl
    have cX1_3 : u4.cell? ⟨w.heap.size, 3, none⟩ = some (.slice A3 l3.length c3) := (blk_cell X1.out 3).trans rfl
    have lX1 : w.heap.size < u4.heap.size := blk_lt X1.out
    have nX1 : w.heap.size ≠ u4.heap.size := Nat.ne_of_lt (blk_lt X1.out)
    have cX2_0 : u4.cell? ⟨w.heap.size + 1, 0, none⟩ = some (.int .i64 0) := (blk_cell X2.out 0).trans rfl
    have fX2_0 : u4.frozen? ⟨w.heap.size + 1, 0, none⟩ = false := blk_frozen X2.out 0
    have cX2_1 : u4.cell? ⟨w.heap.size + 1, 1, none⟩ = some (.int .i64 0) := (blk_cell X2.out 1).trans rfl
    have fX2_1 : u4.frozen? ⟨w.heap.size + 1, 1, none⟩ = false := blk_frozen X2.out 1
    have lX2 : w.heap.size + 1 < u4.heap.size := blk_lt X2.out
    have nX2 : w.heap.size + 1 ≠ u4.heap.size := Nat.ne_of_lt (blk_lt X2.out)
    go_wp2_with (go_at_call 57; refine (cKy _ _).mono ?_; rintro e w' ⟨rfl, n, rfl⟩)
    refine bodyPost_ret (results_cell_row rfl _ _ (w.heap.size + 1) 48 #[.int .i64 3, .int .i64 0] (0, 0) _ rfl (by (with_reducible repeat (first | refine blk_drewN ?_ _ | refine blk_drew ?_ | refine blk_alloc ?_ _)); refine blk_put (cs := #[.int .i64 3, .int .i64 0]) ?_ 1 _ rfl; (with_reducible repeat (first | refine blk_drewN ?_ _ | refine blk_drew ?_ | refine blk_alloc ?_ _)); refine blk_put (cs := #[.int .i64 0, .int .i64 0]) ?_ 0 _ rfl; (with_reducible repeat (first | refine blk_drewN ?_ _ | refine blk_drew ?_ | refine blk_alloc ?_ _)); exact X2.out) Try.underlying48 rfl (by kernel_rfl)) rfl ?_
    exact ⟨rfl, (by repeat (first | (with_reducible first | exact HB.out | apply below_alloc | apply pw_below_drewN | apply below_drew1 | refine below_set ?_ GEX2.out) | exact HB.out))⟩
  ·rw [if_neg c0] at h
   simp only [Option.some.injEq, Prod.mk.injEq] at h
   obtain ⟨rfl, rfl⟩ := h
   have e1 : (c == 0) = false := beq_eq_false_iff_ne.2 c0
   have e2 : (c != 0) = true := bne_iff_ne.2 c0
   go_enter Try.func29, Try.ntmps29
   go_wp2_with fail
   have hb : Below w.heap.size w (w.alloc (Obj.cells #[.int .i64 a0_0, .int .i64 a0_1, .slice A2 l2.length c2, .slice A3 l3.length c3] 31)) := below_alloc (Below.refl _ _) _
   have hbx := blk_new w (Obj.cells #[.int .i64 a0_0, .int .i64 a0_1, .slice A2 l2.length c2, .slice A3 l3.length c3] 31)
   have hsz : w.heap.size + 1 = (w.alloc (Obj.cells #[.int .i64 a0_0, .int .i64 a0_1, .slice A2 l2.length c2, .slice A3 l3.length c3] 31)).heap.size := by simp
   replace HB := Aside0.mk (below_alloc HB.out (Obj.cells #[.int .i64 a0_0, .int .i64 a0_1, .slice A2 l2.length c2, .slice A3 l3.length c3] 31))
   have hbz := Aside0.mk hb
   have hbxz := Aside0.mk hbx
   have hszz := Aside0.mk hsz
   clear hb hbx hsz
   generalize w.alloc (Obj.cells #[.int .i64 a0_0, .int .i64 a0_1, .slice A2 l2.length c2, .slice A3 l3.length c3] 31) = u1 at HB hbz hbxz hszz ⊢
   have X1 := hbxz
   have z1 := hszz
   clear hbz hbxz hszz
   have hb : Below u1.heap.size u1 (u1.alloc (Obj.cells #[.int .i64 0, .int .i64 0] 48)) := below_alloc (Below.refl _ _) _
   have hbx := blk_new u1 (Obj.cells #[.int .i64 0, .int .i64 0] 48)
   have hsz : u1.heap.size + 1 = (u1.alloc (Obj.cells #[.int .i64 0, .int .i64 0] 48)).heap.size := by simp
   replace HB := Aside0.mk (below_alloc HB.out (Obj.cells #[.int .i64 0, .int .i64 0] 48))
   rw [← z1.out] at hbx
   replace X1 := Aside0.mk (keepB hb X1.out)
   have hbz := Aside0.mk hb
   have hbxz := Aside0.mk hbx
   have hszz := Aside0.mk hsz
   clear hb hbx hsz
   generalize u1.alloc (Obj.cells #[.int .i64 0, .int .i64 0] 48) = u2 at HB hbz hbxz hszz X1 ⊢
   have X2 := hbxz
   have z2 := hszz
   clear hbz hbxz hszz
   have GEX2 := Aside0.mk (show w.heap.size ≤ w.heap.size + 1 from by have qz1_ := z1.out; have qz2_ := z2.out; omega)
   refine (impl_EngineFault.calls k a0_0 a0_1 _ c2 l2 _ c3 l3 flt _ (Kd.C_below HR2.out HB.out) HC2.out (Kd.C_below HR3.out HB.out) HC3.out HF.out).mono ?_
   rintro e u3 ⟨rfl, hb⟩
   have hsz := hb.size
   replace HB := Aside0.mk (show Below w.heap.size w u3 from below_step HB.out hb)
   replace X1 := Aside0.mk (keepB hb X1.out)
   replace X2 := Aside0.mk (keepB hb X2.out)
   have z3 := Aside0.mk hsz
   clear hsz
   have cX1_0 : u3.cell? ⟨w.heap.size, 0, none⟩ = some (.int .i64 a0_0) := (blk_cell X1.out 0).trans rfl
   have cX1_1 : u3.cell? ⟨w.heap.size, 1, none⟩ = some (.int .i64 a0_1) := (blk_cell X1.out 1).trans rfl
   have cX1_2 : u3.cell? ⟨w.heap.size, 2, none⟩ = some (.slice A2 l2.length c2) := (blk_cell X1.out 2).trans rfl
   have cX1_3 : u3.cell? ⟨w.heap.size, 3, none⟩ = some (.slice A3 l3.length c3) := (blk_cell X1.out 3).trans rfl
   have lX1 : w.heap.size < u3.heap.size := blk_lt X1.out
   have nX1 : w.heap.size ≠ u3.heap.size := Nat.ne_of_lt (blk_lt X1.out)
   have cX2_0 : u3.cell? ⟨w.heap.size + 1, 0, none⟩ = some (.int .i64 0) := (blk_cell X2.out 0).trans rfl
   have fX2_0 : u3.frozen? ⟨w.heap.size + 1, 0, none⟩ = false := blk_frozen X2.out 0
   have cX2_1 : u3.cell? ⟨w.heap.size + 1, 1, none⟩ = some (.int .i64 0) := (blk_cell X2.out 1).trans rfl
   have fX2_1 : u3.frozen? ⟨w.heap.size + 1, 1, none⟩ = false := blk_frozen X2.out 1
   have lX2 : w.heap.size + 1 < u3.heap.size := blk_lt X2.out
   have nX2 : w.heap.size + 1 ≠ u3.heap.size := Nat.ne_of_lt (blk_lt X2.out)
   go_wp2_with fail
   refine (impl_Engine_txn.at (g := w.heap.size) a0_0 a0_1 _ c2 l2 A3 c3 l3 id _ (Kd.C_below HR2.out HB.out) HC2.out (Kd.C_below HR3.out HB.out) HC3.out X1).mono ?_
   rintro e u4 ⟨⟨p, rfl, hp⟩, hb⟩
   clear cX1_0 cX1_1 cX1_2 cX1_3 lX1 nX1 cX2_0 fX2_0 cX2_1 fX2_1 lX2 nX2
   have hsz := hb.size
   replace HB := Aside0.mk (show Below w.heap.size w u4 from below_step HB.out hb)
   replace X1 := Aside0.mk (keepB hb X1.out)
   replace X2 := Aside0.mk (keepB hb X2.out)
   have z4 := Aside0.mk hsz
   clear hsz
   rw [HI.out] at hp ⊢
   rw [HX.out] at hp
   have cX1_0 : u4.cell? ⟨w.heap.size, 0, none⟩ = some (.int .i64 a0_0) := (blk_cell X1.out 0).trans rfl
   have cX1_1 : u4.cell? ⟨w.heap.size, 1, none⟩ = some (.int .i64 a0_1) := (blk_cell X1.out 1).trans rfl
   have cX1_2 : u4.cell? ⟨w.heap.size, 2, none⟩ = some (.slice A2 l2.length c2) := (blk_cell X1.out 2).trans rfl
   have cX1_3 : u4.cell? ⟨w.heap.size, 3, none⟩ = some (.slice A3 l3.length c3) := (blk_cell X1.out 3).trans rfl
   have lX1 : w.heap.size < u4.heap.size := blk_lt X1.out
   have nX1 : w.heap.size ≠ u4.heap.size := Nat.ne_of_lt (blk_lt X1.out)
   have cX2_0 : u4.cell? ⟨w.heap.size + 1, 0, none⟩ = some (.int .i64 0) := (blk_cell X2.out 0).trans rfl
   have fX2_0 : u4.frozen? ⟨w.heap.size + 1, 0, none⟩ = false := blk_frozen X2.out 0
   have cX2_1 : u4.cell? ⟨w.heap.size + 1, 1, none⟩ = some (.int .i64 0) := (blk_cell X2.out 1).trans rfl
   have fX2_1 : u4.frozen? ⟨w.heap.size + 1, 1, none⟩ = false := blk_frozen X2.out 1
   have lX2 : w.heap.size + 1 < u4.heap.size := blk_lt X2.out
   have nX2 : w.heap.size + 1 ≠ u4.heap.size := Nat.ne_of_lt (blk_lt X2.out)
   go_wp2_with fail
   refine bodyPost_ret (results_cell_row rfl _ _ (w.heap.size + 1) 48 #[.int .i64 c, .int .i64 0] (0, 0) _ rfl (by (with_reducible repeat (first | refine blk_drewN ?_ _ | refine blk_drew ?_ | refine blk_alloc ?_ _)); refine blk_put (cs := #[.int .i64 c, .int .i64 0]) ?_ 1 _ rfl; (with_reducible repeat (first | refine blk_drewN ?_ _ | refine blk_drew ?_ | refine blk_alloc ?_ _)); refine blk_put (cs := #[.int .i64 0, .int .i64 0]) ?_ 0 _ rfl; (with_reducible repeat (first | refine blk_drewN ?_ _ | refine blk_drew ?_ | refine blk_alloc ?_ _)); exact X2.out) Try.underlying48 rfl (by kernel_rfl)) rfl ?_
   exact ⟨rfl, (by repeat (first | (with_reducible first | exact HB.out | apply below_alloc | apply pw_below_drewN | apply below_drew1 | refine below_set ?_ GEX2.out) | exact HB.out))⟩
 ·rw [if_neg f0] at h
  simp only [Option.some.injEq, Prod.mk.injEq] at h
  obtain ⟨rfl, rfl⟩ := h
  have f1 : (flt == 0) = false := beq_eq_false_iff_ne.2 f0
  have f2 : (flt != 0) = true := bne_iff_ne.2 f0
  go_enter Try.func29, Try.ntmps29
  go_wp2_with fail
  have hb : Below w.heap.size w (w.alloc (Obj.cells #[.int .i64 a0_0, .int .i64 a0_1, .slice A2 l2.length c2, .slice A3 l3.length c3] 31)) := below_alloc (Below.refl _ _) _
  have hbx := blk_new w (Obj.cells #[.int .i64 a0_0, .int .i64 a0_1, .slice A2 l2.length c2, .slice A3 l3.length c3] 31)
  have hsz : w.heap.size + 1 = (w.alloc (Obj.cells #[.int .i64 a0_0, .int .i64 a0_1, .slice A2 l2.length c2, .slice A3 l3.length c3] 31)).heap.size := by simp
  replace HB := Aside0.mk (below_alloc HB.out (Obj.cells #[.int .i64 a0_0, .int .i64 a0_1, .slice A2 l2.length c2, .slice A3 l3.length c3] 31))
  have hbz := Aside0.mk hb
  have hbxz := Aside0.mk hbx
  have hszz := Aside0.mk hsz
  clear hb hbx hsz
  generalize w.alloc (Obj.cells #[.int .i64 a0_0, .int .i64 a0_1, .slice A2 l2.length c2, .slice A3 l3.length c3] 31) = u1 at HB hbz hbxz hszz ⊢
  have X1 := hbxz
  have z1 := hszz
  clear hbz hbxz hszz
  have hb : Below u1.heap.size u1 (u1.alloc (Obj.cells #[.int .i64 0, .int .i64 0] 48)) := below_alloc (Below.refl _ _) _
  have hbx := blk_new u1 (Obj.cells #[.int .i64 0, .int .i64 0] 48)
  have hsz : u1.heap.size + 1 = (u1.alloc (Obj.cells #[.int .i64 0, .int .i64 0] 48)).heap.size := by simp
  replace HB := Aside0.mk (below_alloc HB.out (Obj.cells #[.int .i64 0, .int .i64 0] 48))
  rw [← z1.out] at hbx
  replace X1 := Aside0.mk (keepB hb X1.out)
  have hbz := Aside0.mk hb
  have hbxz := Aside0.mk hbx
  have hszz := Aside0.mk hsz
  clear hb hbx hsz
  generalize u1.alloc (Obj.cells #[.int .i64 0, .int .i64 0] 48) = u2 at HB hbz hbxz hszz X1 ⊢
  have X2 := hbxz
  have z2 := hszz
  clear hbz hbxz hszz
  have GEX2 := Aside0.mk (show w.heap.size ≤ w.heap.size + 1 from by have qz1_ := z1.out; have qz2_ := z2.out; omega)
  refine (impl_EngineFault.calls k a0_0 a0_1 _ c2 l2 _ c3 l3 flt _ (Kd.C_below HR2.out HB.out) HC2.out (Kd.C_below HR3.out HB.out) HC3.out HF.out).mono ?_
  rintro e u3 ⟨rfl, hb⟩
  have hsz := hb.size
  replace HB := Aside0.mk (show Below w.heap.size w u3 from below_step HB.out hb)
  replace X1 := Aside0.mk (keepB hb X1.out)
  replace X2 := Aside0.mk (keepB hb X2.out)
  have z3 := Aside0.mk hsz
  clear hsz
  have cX1_0 : u3.cell? ⟨w.heap.size, 0, none⟩ = some (.int .i64 a0_0) := (blk_cell X1.out 0).trans rfl
  have cX1_1 : u3.cell? ⟨w.heap.size, 1, none⟩ = some (.int .i64 a0_1) := (blk_cell X1.out 1).trans rfl
  have cX1_2 : u3.cell? ⟨w.heap.size, 2, none⟩ = some (.slice A2 l2.length c2) := (blk_cell X1.out 2).trans rfl
  have cX1_3 : u3.cell? ⟨w.heap.size, 3, none⟩ = some (.slice A3 l3.length c3) := (blk_cell X1.out 3).trans rfl
  have lX1 : w.heap.size < u3.heap.size := blk_lt X1.out
  have nX1 : w.heap.size ≠ u3.heap.size := Nat.ne_of_lt (blk_lt X1.out)
  have cX2_0 : u3.cell? ⟨w.heap.size + 1, 0, none⟩ = some (.int .i64 0) := (blk_cell X2.out 0).trans rfl
  have fX2_0 : u3.frozen? ⟨w.heap.size + 1, 0, none⟩ = false := blk_frozen X2.out 0
  have cX2_1 : u3.cell? ⟨w.heap.size + 1, 1, none⟩ = some (.int .i64 0) := (blk_cell X2.out 1).trans rfl
  have fX2_1 : u3.frozen? ⟨w.heap.size + 1, 1, none⟩ = false := blk_frozen X2.out 1
  have lX2 : w.heap.size + 1 < u3.heap.size := blk_lt X2.out
  have nX2 : w.heap.size + 1 ≠ u3.heap.size := Nat.ne_of_lt (blk_lt X2.out)
  go_wp2_with fail
  refine bodyPost_ret (results_cell_row rfl _ _ (w.heap.size + 1) 48 #[.int .i64 flt, .int .i64 0] (0, 0) _ rfl (by (with_reducible repeat (first | refine blk_drewN ?_ _ | refine blk_drew ?_ | refine blk_alloc ?_ _)); refine blk_put (cs := #[.int .i64 flt, .int .i64 0]) ?_ 1 _ rfl; (with_reducible repeat (first | refine blk_drewN ?_ _ | refine blk_drew ?_ | refine blk_alloc ?_ _)); refine blk_put (cs := #[.int .i64 0, .int .i64 0]) ?_ 0 _ rfl; (with_reducible repeat (first | refine blk_drewN ?_ _ | refine blk_drew ?_ | refine blk_alloc ?_ _)); exact X2.out) Try.underlying48 rfl (by kernel_rfl)) rfl ?_
  exact ⟨rfl, (by repeat (first | (with_reducible first | exact HB.out | apply below_alloc | apply pw_below_drewN | apply below_drew1 | refine below_set ?_ GEX2.out) | exact HB.out))⟩


end Go.Proofs.Ytonbnmaelepcbaa.P
