import Derived.Test.YtonbnmaelepcbaaZz
import Derived.Test.YtonbnmaelepcbaaP0
import Derived.Test.YtonbnmaelepcbaaPCacdefgh6
import Derived.Test.YtonbnmaelepcbaaPCbh0
import Derived.Test.YtonbnmaelepcbaaPCdgh0
import Derived.Test.YtonbnmaelepcbaaPCdh0
import Derived.Test.YtonbnmaelepcbaaPCgh0
import Derived.Test.YtonbnmaelepcbaaPDm1
import Derived.Test.YtonbnmaelepcbaaPDm2
import Derived.Test.YtonbnmaelepcbaaWRepsOne
import Derived.Test.YtonbnmaelepcbaaLb
import Derived.Test.YtonbnmaelepcbaaLv
import Derived.IntWalk
import Derived.Shelf.Abstract
import Derived.Test.YtonbnmaelepcbaaLv
import Derived.Test.YtonbnmaelepcbaaLv
import Derived.Test.YtonbnmaelepcbaaLv
namespace Go.Proofs.Ytonbnmaelepcbaa.P
open Go.RowKit Go.Proofs.YtonbnmaelepcbaaW.PrintWords Go.Proofs.YtonbnmaelepcbaaW.PrintLast Go.Proofs.YtonbnmaelepcbaaW.PrintMore
attribute [local go_sem] max2_int min2_int max_two min_two max_three min_three max_four min_four   -- for this text's walks alone
set_option linter.unusedVariables false
set_option linter.unusedSimpArgs false
-- PROOF --
set_option maxHeartbeats 8000000 in
set_option maxRecDepth 100000 in
theorem spec_ScanKeys.calls (k : Nat) (a0_0 a0_1 : Int) (A2 : Option Addr) (c2 : Nat) (l2 : List S83) (A3 : Option Addr) (c3 : Nat) (l3 : List S87) (id lo hi r1 : Int) (r2 : List S105) (w : World) (hr2 : Kd.C k83 w A2 l2.length l2) (hc2 : l2.length ≤ c2) (hr3 : Kd.C k87 w A3 l3.length l3) (hc3 : l3.length ≤ c3) (h : spec_ScanKeys.f k a0_0 a0_1 l2 l3 id lo hi = some (r1, r2)) :
 Calls Try.prog 43 #[.agg #[.int .i64 a0_0, .int .i64 a0_1, .slice A2 l2.length c2, .slice A3 l3.length c3], .int .i64 id, .int .i64 lo, .int .i64 hi] w fun e w' => ∃ v1_ : Value, e = .returned (.agg #[.int .i64 r1, v1_]) ∧ Kd.R k105 105 w' w.heap.size (fun _ => True) v1_ r2 ∧ Below w.heap.size w w' := by
 have hu31 := Try.underlying31
 have hu69 := Try.underlying69
 have hu83 := Try.underlying83
 have HB := Aside0.mk (Below.refl w.heap.size w)
 have HR2 := Aside0.mk hr2
 have HR3 := Aside0.mk hr3
 have HC2 := Aside0.mk hc2
 have HC3 := Aside0.mk hc3
 have hn2 := hr2.2.1
 have hn3 := hr3.2.1
 clear hr2 hr3 hc2 hc3
 unfold spec_ScanKeys.f at h
 obtain ⟨flt, hf, h⟩ := Option.bind_eq_some_iff.mp h
 have HF := Aside0.mk hf
 clear hf
 have hok := @askedF_ok flt l2 id
 obtain ⟨⟨i, c⟩, hi_⟩ : ∃ q, askedF flt l2 id = q := ⟨_, rfl⟩
 rw [hi_] at h hok
 have HI := Aside0.mk hi_
 clear hi_
 simp only at h hok
 by_cases c0 : c = 0
 ·rw [if_pos c0] at h
  have f1 : (c == 0) = true := beq_iff_eq.2 c0
  have f2 : (c != 0) = false := bne_eq_false_iff_eq.2 c0
  obtain ⟨i0, i1⟩ := hok c0
  obtain ⟨cl, hv, h⟩ := Option.bind_eq_some_iff.mp h
  obtain ⟨Y, hY⟩ : ∃ x, x = l2.getD i.toNat z83 := ⟨_, rfl⟩
  rw [← hY] at hv
  have HV := Aside0.mk hv
  clear hv
  have HY := Aside0.mk hY
  clear hY
  obtain ⟨ad, A4, c4, ea, hw0, hw1, -, -, -, -, -⟩ := at_T83 HR2.out i i0 i1
  cases ea
  rw [show rd_T83 l2 i = Y from HY.out.symm] at hw0 hw1
  have HW0 := Aside0.mk hw0
  have HW1 := Aside0.mk hw1
  clear hw0 hw1
  simp only [Option.some.injEq, Prod.mk.injEq] at h
  obtain ⟨rfl, rfl⟩ := h
  go_enter Try.func43, Try.ntmps43
  go_wp2_with fail
  have hb : Below w.heap.size w (w.alloc (Obj.cells #[.int .i64 a0_0, .int .i64 a0_1, .slice (some ad) l2.length c2, .slice A3 l3.length c3] 31)) := below_alloc (Below.refl _ _) _
  have hbx := blk_new w (Obj.cells #[.int .i64 a0_0, .int .i64 a0_1, .slice (some ad) l2.length c2, .slice A3 l3.length c3] 31)
  have hsz : w.heap.size + 1 = (w.alloc (Obj.cells #[.int .i64 a0_0, .int .i64 a0_1, .slice (some ad) l2.length c2, .slice A3 l3.length c3] 31)).heap.size := by simp
  replace HB := Aside0.mk (below_alloc HB.out (Obj.cells #[.int .i64 a0_0, .int .i64 a0_1, .slice (some ad) l2.length c2, .slice A3 l3.length c3] 31))
  have hbz := Aside0.mk hb
  have hbxz := Aside0.mk hbx
  have hszz := Aside0.mk hsz
  clear hb hbx hsz
  generalize w.alloc (Obj.cells #[.int .i64 a0_0, .int .i64 a0_1, .slice (some ad) l2.length c2, .slice A3 l3.length c3] 31) = u1 at HB hbz hbxz hszz ⊢
  have X1 := hbxz
  have z1 := hszz
  clear hbz hbxz hszz
  have hb : Below u1.heap.size u1 (u1.alloc (Obj.cells #[.int .i64 0, .slice none 0 0] 69)) := below_alloc (Below.refl _ _) _
  have hbx := blk_new u1 (Obj.cells #[.int .i64 0, .slice none 0 0] 69)
  have hsz : u1.heap.size + 1 = (u1.alloc (Obj.cells #[.int .i64 0, .slice none 0 0] 69)).heap.size := by simp
  replace HB := Aside0.mk (below_alloc HB.out (Obj.cells #[.int .i64 0, .slice none 0 0] 69))
  rw [← z1.out] at hbx
  replace X1 := Aside0.mk (keepB hb X1.out)
  have hbz := Aside0.mk hb
  have hbxz := Aside0.mk hbx
  have hszz := Aside0.mk hsz
  clear hb hbx hsz
  generalize u1.alloc (Obj.cells #[.int .i64 0, .slice none 0 0] 69) = u2 at HB hbz hbxz hszz X1 ⊢
  have X2 := hbxz
  have z2 := hszz
  clear hbz hbxz hszz
  have GEX2 := Aside0.mk (show w.heap.size ≤ w.heap.size + 1 from by have qz1_ := z1.out; have qz2_ := z2.out; omega)
  refine (spec_l6Asked.at (g := w.heap.size) k a0_0 a0_1 _ c2 l2 A3 c3 l3 id flt i c _ (Kd.C_below HR2.out HB.out) HC2.out (Kd.C_below HR3.out HB.out) HC3.out HF.out HI.out X1).mono ?_
  rintro e u3 ⟨rfl, hb⟩
  have hsz := hb.size
  replace HB := Aside0.mk (show Below w.heap.size w u3 from below_step HB.out hb)
  replace X1 := Aside0.mk (keepB hb X1.out)
  replace X2 := Aside0.mk (keepB hb X2.out)
  have z3 := Aside0.mk hsz
  clear hsz
  have cX1_0 : u3.cell? ⟨w.heap.size, 0, none⟩ = some (.int .i64 a0_0) := (blk_cell X1.out 0).trans rfl
  have cX1_1 : u3.cell? ⟨w.heap.size, 1, none⟩ = some (.int .i64 a0_1) := (blk_cell X1.out 1).trans rfl
  have cX1_2 : u3.cell? ⟨w.heap.size, 2, none⟩ = some (.slice (some ad) l2.length c2) := (blk_cell X1.out 2).trans rfl
  have cX1_3 : u3.cell? ⟨w.heap.size, 3, none⟩ = some (.slice A3 l3.length c3) := (blk_cell X1.out 3).trans rfl
  have lX1 : w.heap.size < u3.heap.size := blk_lt X1.out
  have nX1 : w.heap.size ≠ u3.heap.size := Nat.ne_of_lt (blk_lt X1.out)
  have cX2_0 : u3.cell? ⟨w.heap.size + 1, 0, none⟩ = some (.int .i64 0) := (blk_cell X2.out 0).trans rfl
  have fX2_0 : u3.frozen? ⟨w.heap.size + 1, 0, none⟩ = false := blk_frozen X2.out 0
  have cX2_1 : u3.cell? ⟨w.heap.size + 1, 1, none⟩ = some (.slice none 0 0) := (blk_cell X2.out 1).trans rfl
  have fX2_1 : u3.frozen? ⟨w.heap.size + 1, 1, none⟩ = false := blk_frozen X2.out 1
  have lX2 : w.heap.size + 1 < u3.heap.size := blk_lt X2.out
  have nX2 : w.heap.size + 1 ≠ u3.heap.size := Nat.ne_of_lt (blk_lt X2.out)
  go_wp2_with fail
  refine (spec_l6View.at (ad.add (i.toNat * 5)) Y.f0 Y.f1 _ (pw_cell_below HB.out HW0.out) (pw_cell_below HB.out HW1.out)).mono ?_
  rintro e u4 ⟨rfl, hb⟩
  clear cX1_0 cX1_1 cX1_2 cX1_3 lX1 nX1 cX2_0 fX2_0 cX2_1 fX2_1 lX2 nX2
  have hsz := hb.size
  replace HB := Aside0.mk (show Below w.heap.size w u4 from below_step HB.out hb)
  replace X1 := Aside0.mk (keepB hb X1.out)
  replace X2 := Aside0.mk (keepB hb X2.out)
  have z4 := Aside0.mk hsz
  clear hsz
  go_wp2_with fail
  refine (spec_l6Scan.at (g := w.heap.size) k a0_0 a0_1 _ c2 l2 A3 c3 l3 Y.f1 Y.f0 lo hi cl _ (Kd.C_below HR2.out HB.out) HC2.out (Kd.C_below HR3.out HB.out) HC3.out HV.out X1).mono ?_
  rintro e u5 ⟨v, rfl, hr, hb⟩
  have hsz := hb.size
  replace HB := Aside0.mk (show Below w.heap.size w u5 from below_step HB.out hb)
  replace X1 := Aside0.mk (keepB hb X1.out)
  replace X2 := Aside0.mk (keepB hb X2.out)
  have z5 := Aside0.mk hsz
  clear hsz
  obtain ⟨Av, cv, ev⟩ := Kd.R_slice hr
  subst ev
  have HV2 := Aside0.mk (show Kd.R k105 105 u5 w.heap.size (fun k_ => u4.heap.size ≤ k_) (.slice Av cl.length cv) cl from Kd.R_lower (Kd.R_mono (Kd.R_bound hr) (fun k_ h_ => h_.2.1)) (by have qz1_ := z1.out; have qz2_ := z2.out; have qz3_ := z3.out; have qz4_ := z4.out; have qz5_ := z5.out; omega))
  clear hr
  have cX2_0 : u5.cell? ⟨w.heap.size + 1, 0, none⟩ = some (.int .i64 0) := (blk_cell X2.out 0).trans rfl
  have fX2_0 : u5.frozen? ⟨w.heap.size + 1, 0, none⟩ = false := blk_frozen X2.out 0
  have cX2_1 : u5.cell? ⟨w.heap.size + 1, 1, none⟩ = some (.slice none 0 0) := (blk_cell X2.out 1).trans rfl
  have fX2_1 : u5.frozen? ⟨w.heap.size + 1, 1, none⟩ = false := blk_frozen X2.out 1
  have lX2 : w.heap.size + 1 < u5.heap.size := blk_lt X2.out
  have nX2 : w.heap.size + 1 ≠ u5.heap.size := Nat.ne_of_lt (blk_lt X2.out)
  go_wp2_with fail
  refine bodyPost_ret (results_cell_row rfl _ _ (w.heap.size + 1) 69 #[.int .i64 0, .slice Av cl.length cv] (0, 0) _ rfl (by (with_reducible repeat (first | refine blk_drewN ?_ _ | refine blk_drew ?_ | refine blk_alloc ?_ _)); refine blk_put (cs := #[.int .i64 0, .slice none 0 0]) ?_ 1 _ rfl; (with_reducible repeat (first | refine blk_drewN ?_ _ | refine blk_drew ?_ | refine blk_alloc ?_ _)); refine blk_put (cs := #[.int .i64 0, .slice none 0 0]) ?_ 0 _ rfl; (with_reducible repeat (first | refine blk_drewN ?_ _ | refine blk_drew ?_ | refine blk_alloc ?_ _)); exact X2.out) Try.underlying69 rfl (by kernel_rfl)) rfl ?_
  exact ⟨_, rfl, Kd.R_mono (Kd.R_far (p := ⟨w.heap.size + 1, 1, none⟩) (Kd.R_far (p := ⟨w.heap.size + 1, 0, none⟩) HV2.out (fun k_ h_ => by have h2_ := h_; have qz1_ := z1.out; have qz2_ := z2.out; have qz3_ := z3.out; have qz4_ := z4.out; have qz5_ := z5.out; simp only; omega) _) (fun k_ h_ => by have h2_ := h_; have qz1_ := z1.out; have qz2_ := z2.out; have qz3_ := z3.out; have qz4_ := z4.out; have qz5_ := z5.out; simp only; omega) _) (fun _ _ => trivial), zb⟩
 rw [if_neg c0] at h
 simp only [Option.some.injEq, Prod.mk.injEq] at h
 obtain ⟨rfl, rfl⟩ := h
 have f1 : (c == 0) = false := beq_eq_false_iff_ne.2 c0
 have f2 : (c != 0) = true := bne_iff_ne.2 c0
 go_enter Try.func43, Try.ntmps43
 go_wp2_with fail
 have hb : Below w.heap.size w (w.alloc (Obj.cells #[.int .i64 a0_0, .int .i64 a0_1, .slice A2 l2.length c2, .slice A3 l3.length c3] 31)) := below_alloc (Below.refl _ _) _
 have hbx := blk_new w (Obj.cells #[.int .i64 a0_0, .int .i64 a0_1, .slice A2 l2.length c2, .slice A3 l3.length c3] 31)
 have hsz : w.heap.size + 1 = (w.alloc (Obj.cells #[.int .i64 a0_0, .int .i64 a0_1, .slice A2 l2.length c2, .slice A3 l3.length c3] 31)).heap.size := by simp
 replace HB := Aside0.mk (below_alloc HB.out (Obj.cells #[.int .i64 a0_0, .int .i64 a0_1, .slice A2 l2.length c2, .slice A3 l3.length c3] 31))
 have hbz := Aside0.mk hb
 have hbxz := Aside0.mk hbx
 have hszz := Aside0.mk hsz
 clear hb hbx hsz
 generalize w.alloc (Obj.cells #[.int .i64 a0_0, .int .i64 a0_1, .slice A2 l2.length c2, .slice A3 l3.length c3] 31) = u1 at HB hbz hbxz hszz ⊢
 have X1 := hbxz
 have z1 := hszz
 clear hbz hbxz hszz
 have hb : Below u1.heap.size u1 (u1.alloc (Obj.cells #[.int .i64 0, .slice none 0 0] 69)) := below_alloc (Below.refl _ _) _
 have hbx := blk_new u1 (Obj.cells #[.int .i64 0, .slice none 0 0] 69)
 have hsz : u1.heap.size + 1 = (u1.alloc (Obj.cells #[.int .i64 0, .slice none 0 0] 69)).heap.size := by simp
 replace HB := Aside0.mk (below_alloc HB.out (Obj.cells #[.int .i64 0, .slice none 0 0] 69))
 rw [← z1.out] at hbx
 replace X1 := Aside0.mk (keepB hb X1.out)
 have hbz := Aside0.mk hb
 have hbxz := Aside0.mk hbx
 have hszz := Aside0.mk hsz
 clear hb hbx hsz
 generalize u1.alloc (Obj.cells #[.int .i64 0, .slice none 0 0] 69) = u2 at HB hbz hbxz hszz X1 ⊢
 have X2 := hbxz
 have z2 := hszz
 clear hbz hbxz hszz
 have GEX2 := Aside0.mk (show w.heap.size ≤ w.heap.size + 1 from by have qz1_ := z1.out; have qz2_ := z2.out; omega)
 refine (spec_l6Asked.at (g := w.heap.size) k a0_0 a0_1 _ c2 l2 A3 c3 l3 id flt i c _ (Kd.C_below HR2.out HB.out) HC2.out (Kd.C_below HR3.out HB.out) HC3.out HF.out HI.out X1).mono ?_
 rintro e u3 ⟨rfl, hb⟩
 have hsz := hb.size
 replace HB := Aside0.mk (show Below w.heap.size w u3 from below_step HB.out hb)
 replace X1 := Aside0.mk (keepB hb X1.out)
 replace X2 := Aside0.mk (keepB hb X2.out)
 have z3 := Aside0.mk hsz
 clear hsz
 have cX1_0 : u3.cell? ⟨w.heap.size, 0, none⟩ = some (.int .i64 a0_0) := (blk_cell X1.out 0).trans rfl
 have cX1_1 : u3.cell? ⟨w.heap.size, 1, none⟩ = some (.int .i64 a0_1) := (blk_cell X1.out 1).trans rfl
 have cX1_2 : u3.cell? ⟨w.heap.size, 2, none⟩ = some (.slice A2 l2.length c2) := (blk_cell X1.out 2).trans rfl
 have cX1_3 : u3.cell? ⟨w.heap.size, 3, none⟩ = some (.slice A3 l3.length c3) := (blk_cell X1.out 3).trans rfl
 have lX1 : w.heap.size < u3.heap.size := blk_lt X1.out
 have nX1 : w.heap.size ≠ u3.heap.size := Nat.ne_of_lt (blk_lt X1.out)
 have cX2_0 : u3.cell? ⟨w.heap.size + 1, 0, none⟩ = some (.int .i64 0) := (blk_cell X2.out 0).trans rfl
 have fX2_0 : u3.frozen? ⟨w.heap.size + 1, 0, none⟩ = false := blk_frozen X2.out 0
 have cX2_1 : u3.cell? ⟨w.heap.size + 1, 1, none⟩ = some (.slice none 0 0) := (blk_cell X2.out 1).trans rfl
 have fX2_1 : u3.frozen? ⟨w.heap.size + 1, 1, none⟩ = false := blk_frozen X2.out 1
 have lX2 : w.heap.size + 1 < u3.heap.size := blk_lt X2.out
 have nX2 : w.heap.size + 1 ≠ u3.heap.size := Nat.ne_of_lt (blk_lt X2.out)
 go_wp2_with fail
 refine bodyPost_ret (results_cell_row rfl _ _ (w.heap.size + 1) 69 #[.int .i64 c, .slice none 0 0] (0, 0) _ rfl (by (with_reducible repeat (first | refine blk_drewN ?_ _ | refine blk_drew ?_ | refine blk_alloc ?_ _)); refine blk_put (cs := #[.int .i64 c, .slice none 0 0]) ?_ 1 _ rfl; (with_reducible repeat (first | refine blk_drewN ?_ _ | refine blk_drew ?_ | refine blk_alloc ?_ _)); refine blk_put (cs := #[.int .i64 0, .slice none 0 0]) ?_ 0 _ rfl; (with_reducible repeat (first | refine blk_drewN ?_ _ | refine blk_drew ?_ | refine blk_alloc ?_ _)); exact X2.out) Try.underlying69 rfl (by kernel_rfl)) rfl ?_
 exact ⟨_, rfl, Kd.R_nil _ _ _ _ _, zb⟩
-- PROOF --
set_option maxHeartbeats 8000000 in
set_option maxRecDepth 100000 in
theorem impl_ScanKeys.calls (k : Nat) (a0_0 a0_1 : Int) (A2 : Option Addr) (c2 : Nat) (l2 : List S83) (A3 : Option Addr) (c3 : Nat) (l3 : List S87) (id lo hi r1 : Int) (r2 : List S105) (w : World) (hr2 : Kd.C k83 w A2 l2.length l2) (hc2 : l2.length ≤ c2) (hr3 : Kd.C k87 w A3 l3.length l3) (hc3 : l3.length ≤ c3) (h : impl_ScanKeys.f k a0_0 a0_1 l2 l3 id lo hi = some (r1, r2)) :
 Calls Try.prog 44 #[.agg #[.int .i64 a0_0, .int .i64 a0_1, .slice A2 l2.length c2, .slice A3 l3.length c3], .int .i64 id, .int .i64 lo, .int .i64 hi] w fun e w' => ∃ v1_ : Value, e = .returned (.agg #[.int .i64 r1, v1_]) ∧ Kd.R k105 105 w' w.heap.size (fun _ => True) v1_ r2 ∧ Below w.heap.size w w' := by
 have hu31 := Try.underlying31
 have hu69 := Try.underlying69
 have hu83 := Try.underlying83
 have HB := Aside0.mk (Below.refl w.heap.size w)
 have HR2 := Aside0.mk hr2
 have HR3 := Aside0.mk hr3
 have HC2 := Aside0.mk hc2
 have HC3 := Aside0.mk hc3
 have hn2 := hr2.2.1
 have hn3 := hr3.2.1
 clear hr2 hr3 hc2 hc3
 unfold impl_ScanKeys.f at h
 obtain ⟨flt, hf, h⟩ := Option.bind_eq_some_iff.mp h
 have HF := Aside0.mk hf
 clear hf
 have hok := @etxF_ok l2 id
 obtain ⟨c, hi_⟩ : ∃ q, etxF l2 id = q := ⟨_, rfl⟩
 rw [hi_] at h hok
 have HI := Aside0.mk hi_
 clear hi_
 obtain ⟨i, hx⟩ : ∃ x, Lb.idx (fun u : S83 => u.f0 == id) l2 = x := ⟨_, rfl⟩
 rw [hx] at h hok
 have HX := Aside0.mk hx
 clear hx
 by_cases f0 : flt = 0
 ·rw [if_pos f0] at h
  have f1 : (flt == 0) = true := beq_iff_eq.2 f0
  have f2 : (flt != 0) = false := bne_eq_false_iff_eq.2 f0
  have F0 := Aside0.mk f0
  by_cases c0 : c = 0
  ·rw [if_pos c0] at h
   have e1 : (c == 0) = true := beq_iff_eq.2 c0
   have e2 : (c != 0) = false := bne_eq_false_iff_eq.2 c0
   obtain ⟨i0, i1⟩ := hok c0
   obtain ⟨Y, hY⟩ : ∃ x, x = l2.getD i.toNat z83 := ⟨_, rfl⟩
   rw [← hY] at h
   obtain ⟨cl, hv, h⟩ := Option.bind_eq_some_iff.mp h
   have HV := Aside0.mk hv
   clear hv
   have HY := Aside0.mk hY
   clear hY
   simp only [Option.some.injEq, Prod.mk.injEq] at h
   obtain ⟨rfl, rfl⟩ := h
   obtain ⟨ad, A4, c4, ea, hw0, hw1, hw2, hw3, hw4, hc4, hK4⟩ := at_T83 HR2.out i i0 i1
   cases ea
   rw [show rd_T83 l2 i = Y from HY.out.symm] at hw0 hw1 hw2 hw3 hw4 hc4 hK4
   have HW0 := Aside0.mk hw0
   have HW1 := Aside0.mk hw1
   have HW2 := Aside0.mk hw2
   have HW3 := Aside0.mk hw3
   have HW4 := Aside0.mk hw4
   have HC4 := Aside0.mk hc4
   have HK4 := Aside0.mk hK4
   clear hw0 hw1 hw2 hw3 hw4 hc4 hK4
   go_enter Try.func44, Try.ntmps44
   go_wp2_with fail
   have hb : Below w.heap.size w (w.alloc (Obj.cells #[.int .i64 a0_0, .int .i64 a0_1, .slice (some ad) l2.length c2, .slice A3 l3.length c3] 31)) := below_alloc (Below.refl _ _) _
   have hbx := blk_new w (Obj.cells #[.int .i64 a0_0, .int .i64 a0_1, .slice (some ad) l2.length c2, .slice A3 l3.length c3] 31)
   have hsz : w.heap.size + 1 = (w.alloc (Obj.cells #[.int .i64 a0_0, .int .i64 a0_1, .slice (some ad) l2.length c2, .slice A3 l3.length c3] 31)).heap.size := by simp
   replace HB := Aside0.mk (below_alloc HB.out (Obj.cells #[.int .i64 a0_0, .int .i64 a0_1, .slice (some ad) l2.length c2, .slice A3 l3.length c3] 31))
   have hbz := Aside0.mk hb
   have hbxz := Aside0.mk hbx
   have hszz := Aside0.mk hsz
   clear hb hbx hsz
   generalize w.alloc (Obj.cells #[.int .i64 a0_0, .int .i64 a0_1, .slice (some ad) l2.length c2, .slice A3 l3.length c3] 31) = u1 at HB hbz hbxz hszz ⊢
   have X1 := hbxz
   have z1 := hszz
   clear hbz hbxz hszz
   have hb : Below u1.heap.size u1 (u1.alloc (Obj.cells #[.int .i64 0, .slice none 0 0] 69)) := below_alloc (Below.refl _ _) _
   have hbx := blk_new u1 (Obj.cells #[.int .i64 0, .slice none 0 0] 69)
   have hsz : u1.heap.size + 1 = (u1.alloc (Obj.cells #[.int .i64 0, .slice none 0 0] 69)).heap.size := by simp
   replace HB := Aside0.mk (below_alloc HB.out (Obj.cells #[.int .i64 0, .slice none 0 0] 69))
   rw [← z1.out] at hbx
   replace X1 := Aside0.mk (keepB hb X1.out)
   have hbz := Aside0.mk hb
   have hbxz := Aside0.mk hbx
   have hszz := Aside0.mk hsz
   clear hb hbx hsz
   generalize u1.alloc (Obj.cells #[.int .i64 0, .slice none 0 0] 69) = u2 at HB hbz hbxz hszz X1 ⊢
   have X2 := hbxz
   have z2 := hszz
   clear hbz hbxz hszz
   have GEX2 := Aside0.mk (show w.heap.size ≤ w.heap.size + 1 from by have qz1_ := z1.out; have qz2_ := z2.out; omega)
   refine (impl_EngineFault.calls k a0_0 a0_1 _ c2 l2 _ c3 l3 flt _ (Kd.C_below HR2.out HB.out) HC2.out (Kd.C_below HR3.out HB.out) HC3.out HF.out).mono ?_
   rintro e u3 ⟨rfl, hb⟩
   have hsz := hb.size
   replace HB := Aside0.mk (show Below w.heap.size w u3 from below_step HB.out hb)
   replace X1 := Aside0.mk (keepB hb X1.out)
   replace X2 := Aside0.mk (keepB hb X2.out)
   have z3 := Aside0.mk hsz
   clear hsz
   have cX1_0 : u3.cell? ⟨w.heap.size, 0, none⟩ = some (.int .i64 a0_0) := (blk_cell X1.out 0).trans rfl
   have cX1_1 : u3.cell? ⟨w.heap.size, 1, none⟩ = some (.int .i64 a0_1) := (blk_cell X1.out 1).trans rfl
   have cX1_2 : u3.cell? ⟨w.heap.size, 2, none⟩ = some (.slice (some ad) l2.length c2) := (blk_cell X1.out 2).trans rfl
   have cX1_3 : u3.cell? ⟨w.heap.size, 3, none⟩ = some (.slice A3 l3.length c3) := (blk_cell X1.out 3).trans rfl
   have lX1 : w.heap.size < u3.heap.size := blk_lt X1.out
   have nX1 : w.heap.size ≠ u3.heap.size := Nat.ne_of_lt (blk_lt X1.out)
   have cX2_0 : u3.cell? ⟨w.heap.size + 1, 0, none⟩ = some (.int .i64 0) := (blk_cell X2.out 0).trans rfl
   have fX2_0 : u3.frozen? ⟨w.heap.size + 1, 0, none⟩ = false := blk_frozen X2.out 0
   have cX2_1 : u3.cell? ⟨w.heap.size + 1, 1, none⟩ = some (.slice none 0 0) := (blk_cell X2.out 1).trans rfl
   have fX2_1 : u3.frozen? ⟨w.heap.size + 1, 1, none⟩ = false := blk_frozen X2.out 1
   have lX2 : w.heap.size + 1 < u3.heap.size := blk_lt X2.out
   have nX2 : w.heap.size + 1 ≠ u3.heap.size := Nat.ne_of_lt (blk_lt X2.out)
   go_wp2_with fail
   refine (impl_Engine_txn.at (g := w.heap.size) a0_0 a0_1 _ c2 l2 A3 c3 l3 id _ (Kd.C_below HR2.out HB.out) HC2.out (Kd.C_below HR3.out HB.out) HC3.out X1).mono ?_
   rintro e u4 ⟨⟨p, rfl, hp⟩, hb⟩
   clear cX1_0 cX1_1 cX1_2 cX1_3 lX1 nX1 cX2_0 fX2_0 cX2_1 fX2_1 lX2 nX2
   have hsz := hb.size
   replace HB := Aside0.mk (show Below w.heap.size w u4 from below_step HB.out hb)
   replace X1 := Aside0.mk (keepB hb X1.out)
   replace X2 := Aside0.mk (keepB hb X2.out)
   have z4 := Aside0.mk hsz
   clear hsz
   rw [HI.out] at hp ⊢
   rw [HX.out] at hp
   have cX1_0 : u4.cell? ⟨w.heap.size, 0, none⟩ = some (.int .i64 a0_0) := (blk_cell X1.out 0).trans rfl
   have cX1_1 : u4.cell? ⟨w.heap.size, 1, none⟩ = some (.int .i64 a0_1) := (blk_cell X1.out 1).trans rfl
   have cX1_2 : u4.cell? ⟨w.heap.size, 2, none⟩ = some (.slice (some ad) l2.length c2) := (blk_cell X1.out 2).trans rfl
   have cX1_3 : u4.cell? ⟨w.heap.size, 3, none⟩ = some (.slice A3 l3.length c3) := (blk_cell X1.out 3).trans rfl
   have lX1 : w.heap.size < u4.heap.size := blk_lt X1.out
   have nX1 : w.heap.size ≠ u4.heap.size := Nat.ne_of_lt (blk_lt X1.out)
   have cX2_0 : u4.cell? ⟨w.heap.size + 1, 0, none⟩ = some (.int .i64 0) := (blk_cell X2.out 0).trans rfl
   have fX2_0 : u4.frozen? ⟨w.heap.size + 1, 0, none⟩ = false := blk_frozen X2.out 0
   have cX2_1 : u4.cell? ⟨w.heap.size + 1, 1, none⟩ = some (.slice none 0 0) := (blk_cell X2.out 1).trans rfl
   have fX2_1 : u4.frozen? ⟨w.heap.size + 1, 1, none⟩ = false := blk_frozen X2.out 1
   have lX2 : w.heap.size + 1 < u4.heap.size := blk_lt X2.out
   have nX2 : w.heap.size + 1 ≠ u4.heap.size := Nat.ne_of_lt (blk_lt X2.out)
   obtain ⟨ad', ea, ep⟩ := hp c0
   cases ea
   subst ep
   go_wp2_with fail
   clear cX1_0 cX1_1 cX1_2 cX1_3 lX1 nX1 cX2_0 fX2_0 cX2_1 fX2_1 lX2 nX2
   refine start_ (n := 9) (S := fun W_ => W_.cell? ⟨w.heap.size, 0, none⟩ = some (.int .i64 a0_0) ∧ W_.cell? ⟨w.heap.size, 1, none⟩ = some (.int .i64 a0_1) ∧ W_.cell? ⟨w.heap.size, 2, none⟩ = some (.slice (some ad) l2.length c2) ∧ W_.cell? ⟨w.heap.size, 3, none⟩ = some (.slice A3 l3.length c3) ∧ W_.cell? (ad.add (i.toNat * 5)) = some (.int .i64 Y.f0) ∧ W_.cell? ⟨(ad.add (i.toNat * 5)).block, (ad.add (i.toNat * 5)).off + 1, none⟩ = some (.int .i64 Y.f1) ∧ W_.cell? ⟨(ad.add (i.toNat * 5)).block, (ad.add (i.toNat * 5)).off + 2, none⟩ = some (.int .i64 Y.f2) ∧ W_.cell? ⟨(ad.add (i.toNat * 5)).block, (ad.add (i.toNat * 5)).off + 3, none⟩ = some (.int .i64 Y.f3) ∧ W_.cell? ⟨(ad.add (i.toNat * 5)).block, (ad.add (i.toNat * 5)).off + 4, none⟩ = some (.slice A4 Y.f4.length c4)) (ds := [8]) #[false, false, false, false, false, false, false, false, false] (by kernel_rfl) rfl rfl ⟨(blk_cell X1.out 0).trans rfl, (blk_cell X1.out 1).trans rfl, (blk_cell X1.out 2).trans rfl, (blk_cell X1.out 3).trans rfl, pw_cell_below HB.out HW0.out, pw_cell_below HB.out HW1.out, pw_cell_below HB.out HW2.out, pw_cell_below HB.out HW3.out, pw_cell_below HB.out HW4.out⟩ (fun hHeld => ?_)
   refine zp 1 28 ?_; refine zp 2 29 ?_; refine zp 4 31 ?_; refine zp 5 32 ?_; refine zt 0 27 ?_; refine zt 3 30 ?_
   refine one_ (i := 6) (N := some 33) #[true, true, true, true, true, true, true, false, false] rfl rfl (by kernel_rfl) (by decide) (fun K hK => ?_)
   refine goes_ Try.func104 (by kernel_rfl) rfl #[.agg #[.int .i64 a0_0, .int .i64 a0_1, .slice (some ad) l2.length c2, .slice A3 l3.length c3], .agg #[.int .i64 Y.f0, .int .i64 Y.f1, .int .i64 Y.f2, .int .i64 Y.f3, .slice A4 Y.f4.length c4], .int .i64 lo, .int .i64 hi] (by rfl) rfl rfl zm ?_
   with_reducible refine (impl_Engine_scan.calls k a0_0 a0_1 (some ad) c2 l2 A3 c3 l3 Y.f0 Y.f1 Y.f2 Y.f3 A4 c4 Y.f4 lo hi cl _ (Kd.C_drew (Kd.C_below HR2.out HB.out)) HC2.out (Kd.C_drew (Kd.C_below HR3.out HB.out)) HC3.out (Kd.C_drew (Kd.C_below HK4.out HB.out)) HC4.out HV.out).mono ?_
   rintro e ua ⟨v, rfl, hr, hb⟩
   refine ⟨_, rfl, ?_⟩
   replace hb : Below u4.heap.size u4 ua := below_step (below_drew (Below.refl _ _)) hb
   replace HB := Aside0.mk (show Below w.heap.size w ua from below_step HB.out hb)
   have hsz := Aside0.mk hb.size
   replace X1 := Aside0.mk (keepB hb X1.out)
   replace X2 := Aside0.mk (keepB hb X2.out)
   have z5 := hsz
   clear hsz hb
   obtain ⟨Av, cv, ev⟩ := Kd.R_slice hr
   subst ev
   have HV2 := Aside0.mk (show Kd.R k105 105 ua w.heap.size (fun k_ => u4.heap.size ≤ k_) (.slice Av cl.length cv) cl from Kd.R_lower (Kd.R_mono (Kd.R_bound hr) (fun k_ h_ => h_.2.1)) (show w.heap.size ≤ u4.heap.size from by have qz1_ := z1.out; have qz2_ := z2.out; have qz3_ := z3.out; have qz4_ := z4.out; omega))
   clear hr
   refine hK.out _ _ ⟨(blk_cell X1.out 0).trans rfl, (blk_cell X1.out 1).trans rfl, (blk_cell X1.out 2).trans rfl, (blk_cell X1.out 3).trans rfl, pw_cell_below HB.out HW0.out, pw_cell_below HB.out HW1.out, pw_cell_below HB.out HW2.out, pw_cell_below HB.out HW3.out, pw_cell_below HB.out HW4.out⟩ (fun hHeld => ?_)
   clear hK K
   refine norm_ (a' := ?_) ?_ ?_
   rotate_left
   ·show Act.put _ (some 33) _ = _
    simp only [Act.put, List.setIfInBounds_toArray, List.set_cons_zero, List.set_cons_succ, i64_w, i32_w]
    rfl
   refine zp 7 34 ?_
   have cR_0 : ua.cell? ⟨w.heap.size + 1, 0, none⟩ = some (.int .i64 0) := (blk_cell X2.out 0).trans rfl
   have fR_0 : ua.frozen? ⟨w.heap.size + 1, 0, none⟩ = false := blk_frozen X2.out 0
   have cR_1 : ua.cell? ⟨w.heap.size + 1, 1, none⟩ = some (.slice none 0 0) := (blk_cell X2.out 1).trans rfl
   have fR_1 : ua.frozen? ⟨w.heap.size + 1, 1, none⟩ = false := blk_frozen X2.out 1
   refine last_ (i := 8) (N := none) #[true, true, true, true, true, true, true, true, true] rfl rfl (by kernel_rfl) (by decide) (fun K hK => ?_)
   refine skip_ (w1 := ?_) (by rfl) rfl ?_ ?_
   rotate_left
   ·go_simp
    rfl
   refine hK.out _ _ ?_
   clear hK K
   refine done_ (by kernel_rfl) ?_
   go_wp2_with fail
   refine bodyPost_ret (results_cell_row rfl _ _ (w.heap.size + 1) 69 #[.int .i64 0, .slice Av cl.length cv] (0, 0) _ rfl (by (with_reducible repeat (first | refine blk_drewN ?_ _ | refine blk_drew ?_ | refine blk_alloc ?_ _)); refine blk_put (cs := #[.int .i64 0, .slice none 0 0]) ?_ 1 _ rfl; (with_reducible repeat (first | refine blk_drewN ?_ _ | refine blk_drew ?_ | refine blk_alloc ?_ _)); refine blk_put (cs := #[.int .i64 0, .slice none 0 0]) ?_ 0 _ rfl; (with_reducible repeat (first | refine blk_drewN ?_ _ | refine blk_drew ?_ | refine blk_alloc ?_ _)); exact X2.out) Try.underlying69 rfl (by kernel_rfl)) rfl ?_
   exact ⟨_, rfl, Kd.R_mono (Kd.R_far (p := ⟨w.heap.size + 1, 1, none⟩) (Kd.R_far (p := ⟨w.heap.size + 1, 0, none⟩) HV2.out (fun k_ h_ => by have h2_ := h_; have qz1_ := z1.out; have qz2_ := z2.out; have qz3_ := z3.out; have qz4_ := z4.out; have qz5_ := z5.out; simp only; omega) _) (fun k_ h_ => by have h2_ := h_; have qz1_ := z1.out; have qz2_ := z2.out; have qz3_ := z3.out; have qz4_ := z4.out; have qz5_ := z5.out; simp only; omega) _) (fun _ _ => trivial), zb⟩
  rw [if_neg c0] at h
  simp only [Option.some.injEq, Prod.mk.injEq] at h
  obtain ⟨rfl, rfl⟩ := h
  have e1 : (c == 0) = false := beq_eq_false_iff_ne.2 c0
  have e2 : (c != 0) = true := bne_iff_ne.2 c0
  go_enter Try.func44, Try.ntmps44
  go_wp2_with fail
  have hb : Below w.heap.size w (w.alloc (Obj.cells #[.int .i64 a0_0, .int .i64 a0_1, .slice A2 l2.length c2, .slice A3 l3.length c3] 31)) := below_alloc (Below.refl _ _) _
  have hbx := blk_new w (Obj.cells #[.int .i64 a0_0, .int .i64 a0_1, .slice A2 l2.length c2, .slice A3 l3.length c3] 31)
  have hsz : w.heap.size + 1 = (w.alloc (Obj.cells #[.int .i64 a0_0, .int .i64 a0_1, .slice A2 l2.length c2, .slice A3 l3.length c3] 31)).heap.size := by simp
  replace HB := Aside0.mk (below_alloc HB.out (Obj.cells #[.int .i64 a0_0, .int .i64 a0_1, .slice A2 l2.length c2, .slice A3 l3.length c3] 31))
  have hbz := Aside0.mk hb
  have hbxz := Aside0.mk hbx
  have hszz := Aside0.mk hsz
  clear hb hbx hsz
  generalize w.alloc (Obj.cells #[.int .i64 a0_0, .int .i64 a0_1, .slice A2 l2.length c2, .slice A3 l3.length c3] 31) = u1 at HB hbz hbxz hszz ⊢
  have X1 := hbxz
  have z1 := hszz
  clear hbz hbxz hszz
  have hb : Below u1.heap.size u1 (u1.alloc (Obj.cells #[.int .i64 0, .slice none 0 0] 69)) := below_alloc (Below.refl _ _) _
  have hbx := blk_new u1 (Obj.cells #[.int .i64 0, .slice none 0 0] 69)
  have hsz : u1.heap.size + 1 = (u1.alloc (Obj.cells #[.int .i64 0, .slice none 0 0] 69)).heap.size := by simp
  replace HB := Aside0.mk (below_alloc HB.out (Obj.cells #[.int .i64 0, .slice none 0 0] 69))
  rw [← z1.out] at hbx
  replace X1 := Aside0.mk (keepB hb X1.out)
  have hbz := Aside0.mk hb
  have hbxz := Aside0.mk hbx
  have hszz := Aside0.mk hsz
  clear hb hbx hsz
  generalize u1.alloc (Obj.cells #[.int .i64 0, .slice none 0 0] 69) = u2 at HB hbz hbxz hszz X1 ⊢
  have X2 := hbxz
  have z2 := hszz
  clear hbz hbxz hszz
  have GEX2 := Aside0.mk (show w.heap.size ≤ w.heap.size + 1 from by have qz1_ := z1.out; have qz2_ := z2.out; omega)
  refine (impl_EngineFault.calls k a0_0 a0_1 _ c2 l2 _ c3 l3 flt _ (Kd.C_below HR2.out HB.out) HC2.out (Kd.C_below HR3.out HB.out) HC3.out HF.out).mono ?_
  rintro e u3 ⟨rfl, hb⟩
  have hsz := hb.size
  replace HB := Aside0.mk (show Below w.heap.size w u3 from below_step HB.out hb)
  replace X1 := Aside0.mk (keepB hb X1.out)
  replace X2 := Aside0.mk (keepB hb X2.out)
  have z3 := Aside0.mk hsz
  clear hsz
  have cX1_0 : u3.cell? ⟨w.heap.size, 0, none⟩ = some (.int .i64 a0_0) := (blk_cell X1.out 0).trans rfl
  have cX1_1 : u3.cell? ⟨w.heap.size, 1, none⟩ = some (.int .i64 a0_1) := (blk_cell X1.out 1).trans rfl
  have cX1_2 : u3.cell? ⟨w.heap.size, 2, none⟩ = some (.slice A2 l2.length c2) := (blk_cell X1.out 2).trans rfl
  have cX1_3 : u3.cell? ⟨w.heap.size, 3, none⟩ = some (.slice A3 l3.length c3) := (blk_cell X1.out 3).trans rfl
  have lX1 : w.heap.size < u3.heap.size := blk_lt X1.out
  have nX1 : w.heap.size ≠ u3.heap.size := Nat.ne_of_lt (blk_lt X1.out)
  have cX2_0 : u3.cell? ⟨w.heap.size + 1, 0, none⟩ = some (.int .i64 0) := (blk_cell X2.out 0).trans rfl
  have fX2_0 : u3.frozen? ⟨w.heap.size + 1, 0, none⟩ = false := blk_frozen X2.out 0
  have cX2_1 : u3.cell? ⟨w.heap.size + 1, 1, none⟩ = some (.slice none 0 0) := (blk_cell X2.out 1).trans rfl
  have fX2_1 : u3.frozen? ⟨w.heap.size + 1, 1, none⟩ = false := blk_frozen X2.out 1
  have lX2 : w.heap.size + 1 < u3.heap.size := blk_lt X2.out
  have nX2 : w.heap.size + 1 ≠ u3.heap.size := Nat.ne_of_lt (blk_lt X2.out)
  go_wp2_with fail
  refine (impl_Engine_txn.at (g := w.heap.size) a0_0 a0_1 _ c2 l2 A3 c3 l3 id _ (Kd.C_below HR2.out HB.out) HC2.out (Kd.C_below HR3.out HB.out) HC3.out X1).mono ?_
  rintro e u4 ⟨⟨p, rfl, hp⟩, hb⟩
  clear cX1_0 cX1_1 cX1_2 cX1_3 lX1 nX1 cX2_0 fX2_0 cX2_1 fX2_1 lX2 nX2
  have hsz := hb.size
  replace HB := Aside0.mk (show Below w.heap.size w u4 from below_step HB.out hb)
  replace X1 := Aside0.mk (keepB hb X1.out)
  replace X2 := Aside0.mk (keepB hb X2.out)
  have z4 := Aside0.mk hsz
  clear hsz
  rw [HI.out] at hp ⊢
  rw [HX.out] at hp
  have cX1_0 : u4.cell? ⟨w.heap.size, 0, none⟩ = some (.int .i64 a0_0) := (blk_cell X1.out 0).trans rfl
  have cX1_1 : u4.cell? ⟨w.heap.size, 1, none⟩ = some (.int .i64 a0_1) := (blk_cell X1.out 1).trans rfl
  have cX1_2 : u4.cell? ⟨w.heap.size, 2, none⟩ = some (.slice A2 l2.length c2) := (blk_cell X1.out 2).trans rfl
  have cX1_3 : u4.cell? ⟨w.heap.size, 3, none⟩ = some (.slice A3 l3.length c3) := (blk_cell X1.out 3).trans rfl
  have lX1 : w.heap.size < u4.heap.size := blk_lt X1.out
  have nX1 : w.heap.size ≠ u4.heap.size := Nat.ne_of_lt (blk_lt X1.out)
  have cX2_0 : u4.cell? ⟨w.heap.size + 1, 0, none⟩ = some (.int .i64 0) := (blk_cell X2.out 0).trans rfl
  have fX2_0 : u4.frozen? ⟨w.heap.size + 1, 0, none⟩ = false := blk_frozen X2.out 0
  have cX2_1 : u4.cell? ⟨w.heap.size + 1, 1, none⟩ = some (.slice none 0 0) := (blk_cell X2.out 1).trans rfl
  have fX2_1 : u4.frozen? ⟨w.heap.size + 1, 1, none⟩ = false := blk_frozen X2.out 1
  have lX2 : w.heap.size + 1 < u4.heap.size := blk_lt X2.out
  have nX2 : w.heap.size + 1 ≠ u4.heap.size := Nat.ne_of_lt (blk_lt X2.out)
  go_wp2_with fail
  refine bodyPost_ret (results_cell_row rfl _ _ (w.heap.size + 1) 69 #[.int .i64 c, .slice none 0 0] (0, 0) _ rfl (by (with_reducible repeat (first | refine blk_drewN ?_ _ | refine blk_drew ?_ | refine blk_alloc ?_ _)); refine blk_put (cs := #[.int .i64 c, .slice none 0 0]) ?_ 1 _ rfl; (with_reducible repeat (first | refine blk_drewN ?_ _ | refine blk_drew ?_ | refine blk_alloc ?_ _)); refine blk_put (cs := #[.int .i64 0, .slice none 0 0]) ?_ 0 _ rfl; (with_reducible repeat (first | refine blk_drewN ?_ _ | refine blk_drew ?_ | refine blk_alloc ?_ _)); exact X2.out) Try.underlying69 rfl (by kernel_rfl)) rfl ?_
  exact ⟨_, rfl, Kd.R_nil _ _ _ _ _, zb⟩
 rw [if_neg f0] at h
 simp only [Option.some.injEq, Prod.mk.injEq] at h
 obtain ⟨rfl, rfl⟩ := h
 have f1 : (flt == 0) = false := beq_eq_false_iff_ne.2 f0
 have f2 : (flt != 0) = true := bne_iff_ne.2 f0
 go_enter Try.func44, Try.ntmps44
 go_wp2_with fail
 have hb : Below w.heap.size w (w.alloc (Obj.cells #[.int .i64 a0_0, .int .i64 a0_1, .slice A2 l2.length c2, .slice A3 l3.length c3] 31)) := below_alloc (Below.refl _ _) _
 have hbx := blk_new w (Obj.cells #[.int .i64 a0_0, .int .i64 a0_1, .slice A2 l2.length c2, .slice A3 l3.length c3] 31)
 have hsz : w.heap.size + 1 = (w.alloc (Obj.cells #[.int .i64 a0_0, .int .i64 a0_1, .slice A2 l2.length c2, .slice A3 l3.length c3] 31)).heap.size := by simp
 replace HB := Aside0.mk (below_alloc HB.out (Obj.cells #[.int .i64 a0_0, .int .i64 a0_1, .slice A2 l2.length c2, .slice A3 l3.length c3] 31))
 have hbz := Aside0.mk hb
 have hbxz := Aside0.mk hbx
 have hszz := Aside0.mk hsz
 clear hb hbx hsz
 generalize w.alloc (Obj.cells #[.int .i64 a0_0, .int .i64 a0_1, .slice A2 l2.length c2, .slice A3 l3.length c3] 31) = u1 at HB hbz hbxz hszz ⊢
 have X1 := hbxz
 have z1 := hszz
 clear hbz hbxz hszz
 have hb : Below u1.heap.size u1 (u1.alloc (Obj.cells #[.int .i64 0, .slice none 0 0] 69)) := below_alloc (Below.refl _ _) _
 have hbx := blk_new u1 (Obj.cells #[.int .i64 0, .slice none 0 0] 69)
 have hsz : u1.heap.size + 1 = (u1.alloc (Obj.cells #[.int .i64 0, .slice none 0 0] 69)).heap.size := by simp
 replace HB := Aside0.mk (below_alloc HB.out (Obj.cells #[.int .i64 0, .slice none 0 0] 69))
 rw [← z1.out] at hbx
 replace X1 := Aside0.mk (keepB hb X1.out)
 have hbz := Aside0.mk hb
 have hbxz := Aside0.mk hbx
 have hszz := Aside0.mk hsz
 clear hb hbx hsz
 generalize u1.alloc (Obj.cells #[.int .i64 0, .slice none 0 0] 69) = u2 at HB hbz hbxz hszz X1 ⊢
 have X2 := hbxz
 have z2 := hszz
 clear hbz hbxz hszz
 have GEX2 := Aside0.mk (show w.heap.size ≤ w.heap.size + 1 from by have qz1_ := z1.out; have qz2_ := z2.out; omega)
 refine (impl_EngineFault.calls k a0_0 a0_1 _ c2 l2 _ c3 l3 flt _ (Kd.C_below HR2.out HB.out) HC2.out (Kd.C_below HR3.out HB.out) HC3.out HF.out).mono ?_
 rintro e u3 ⟨rfl, hb⟩
 have hsz := hb.size
 replace HB := Aside0.mk (show Below w.heap.size w u3 from below_step HB.out hb)
 replace X1 := Aside0.mk (keepB hb X1.out)
 replace X2 := Aside0.mk (keepB hb X2.out)
 have z3 := Aside0.mk hsz
 clear hsz
 have cX1_0 : u3.cell? ⟨w.heap.size, 0, none⟩ = some (.int .i64 a0_0) := (blk_cell X1.out 0).trans rfl
 have cX1_1 : u3.cell? ⟨w.heap.size, 1, none⟩ = some (.int .i64 a0_1) := (blk_cell X1.out 1).trans rfl
 have cX1_2 : u3.cell? ⟨w.heap.size, 2, none⟩ = some (.slice A2 l2.length c2) := (blk_cell X1.out 2).trans rfl
 have cX1_3 : u3.cell? ⟨w.heap.size, 3, none⟩ = some (.slice A3 l3.length c3) := (blk_cell X1.out 3).trans rfl
 have lX1 : w.heap.size < u3.heap.size := blk_lt X1.out
 have nX1 : w.heap.size ≠ u3.heap.size := Nat.ne_of_lt (blk_lt X1.out)
 have cX2_0 : u3.cell? ⟨w.heap.size + 1, 0, none⟩ = some (.int .i64 0) := (blk_cell X2.out 0).trans rfl
 have fX2_0 : u3.frozen? ⟨w.heap.size + 1, 0, none⟩ = false := blk_frozen X2.out 0
 have cX2_1 : u3.cell? ⟨w.heap.size + 1, 1, none⟩ = some (.slice none 0 0) := (blk_cell X2.out 1).trans rfl
 have fX2_1 : u3.frozen? ⟨w.heap.size + 1, 1, none⟩ = false := blk_frozen X2.out 1
 have lX2 : w.heap.size + 1 < u3.heap.size := blk_lt X2.out
 have nX2 : w.heap.size + 1 ≠ u3.heap.size := Nat.ne_of_lt (blk_lt X2.out)
 go_wp2_with fail
 refine bodyPost_ret (results_cell_row rfl _ _ (w.heap.size + 1) 69 #[.int .i64 flt, .slice none 0 0] (0, 0) _ rfl (by (with_reducible repeat (first | refine blk_drewN ?_ _ | refine blk_drew ?_ | refine blk_alloc ?_ _)); refine blk_put (cs := #[.int .i64 flt, .slice none 0 0]) ?_ 1 _ rfl; (with_reducible repeat (first | refine blk_drewN ?_ _ | refine blk_drew ?_ | refine blk_alloc ?_ _)); refine blk_put (cs := #[.int .i64 0, .slice none 0 0]) ?_ 0 _ rfl; (with_reducible repeat (first | refine blk_drewN ?_ _ | refine blk_drew ?_ | refine blk_alloc ?_ _)); exact X2.out) Try.underlying69 rfl (by kernel_rfl)) rfl ?_
 exact ⟨_, rfl, Kd.R_nil _ _ _ _ _, zb⟩
set_option maxHeartbeats 8000000 in
set_option maxRecDepth 100000 in
theorem laws_eqCellsResult.calls (k : Nat) (a0_0 : Int) (A0_1 : Option Addr) (c0_1 : Nat) (l0_1 : List (S105)) (a1_0 : Int) (A1_1 : Option Addr) (c1_1 : Nat) (l1_1 : List (S105)) (r : Bool) (w : World) (hr0_1 : Kd.C k105 w A0_1 l0_1.length l0_1) (hc0_1 : l0_1.length ≤ c0_1) (hr1_1 : Kd.C k105 w A1_1 l1_1.length l1_1) (hc1_1 : l1_1.length ≤ c1_1) (h : laws_eqCellsResult.f k a0_0 l0_1 a1_0 l1_1 = some r) :
 Calls Try.prog 45 #[.agg #[.int .i64 a0_0, .slice A0_1 l0_1.length c0_1], .agg #[.int .i64 a1_0, .slice A1_1 l1_1.length c1_1]] w fun e w' => e = .returned (.bool r) ∧ Below w.heap.size w w' := by
 have hu69 := Try.underlying69
 have HR0_1 := Aside0.mk hr0_1
 have HC0_1 := Aside0.mk hc0_1
 clear hr0_1 hc0_1
 have HR1_1 := Aside0.mk hr1_1
 have HC1_1 := Aside0.mk hc1_1
 clear hr1_1 hc1_1
 have HB := Aside0.mk (Below.refl w.heap.size w)
 have H : (if a0_0 = a1_0 then ((laws_eqCellS.f k l0_1 l1_1).bind fun t25 => (if t25 = true then (some true) else (some false))) else (some false)) = some r := h
 clear h
 by_cases c3 : a0_0 = a1_0
 ·rw [if_pos c3] at H
  have c3b0 : (a0_0 == a1_0) = true := beq_iff_eq.mpr c3
  have c3b1 : (a0_0 != a1_0) = false := bne_eq_false_iff_eq.mpr c3
  clear c3
  replace H := Option.bind_eq_some_iff.mp H
  obtain ⟨t25, A40, H⟩ := H
  replace H : (if t25 = true then (some true) else (some false)) = some r := H
  have A4 := Aside0.mk A40
  clear A40
  by_cases c5 : t25 = true
  ·subst c5
   have H1 : (some true) = some r := by rw [if_pos rfl] at H; exact H
   clear H
   have H := H1
   clear H1
   obtain rfl := Option.some.inj H
   go_enter Try.func45, Try.ntmps45
   go_wp2_with (first | ((with_reducible refine gate_dst (N := 2) rfl ?_); refine box_event ?hg (N := 2) ?hd (cs := #[.int .i64 a0_0, .slice A0_1 l0_1.length c0_1]) (t := 69) ?hr ?_; (case hd => rfl); (case hg => rfl); (case hr => first | (go_simp; done) | (go_simp; rfl)); intro gb23 hg w6 hbox hb; have n0_ := Aside0.mk (below_step zb hb); have n1_ := Aside0.mk (hbox); have n2_ := Aside0.mk ((by rw [hg]; exact (below_size zb) : w.heap.size ≤ gb23)); have n3_ := n2_; clear HB; have HB := n0_; have BK23 := n1_; have GW23 := n2_; have GE23 := n3_; clear n0_ n1_ n2_ n3_; clear hb hbox hg) | ((with_reducible refine gate_dst (N := 3) rfl ?_); refine box_event ?hg (N := 3) ?hd (cs := #[.int .i64 a1_0, .slice A1_1 l1_1.length c1_1]) (t := 69) ?hr ?_; (case hd => rfl); (case hg => rfl); (case hr => first | (go_simp; done) | (go_simp; rfl)); intro gb24 hg w7 hbox hb; have n0_ := Aside0.mk (blk_below (g := gb23) (o := .cells #[.int .i64 a0_0, .slice A0_1 l0_1.length c0_1] 69 (0, 0)) zk hb); have n1_ := Aside0.mk (below_step zb hb); have n2_ := Aside0.mk (hbox); have n3_ := Aside0.mk ((by rw [hg]; exact (below_size zb) : w.heap.size ≤ gb24)); have n4_ := n3_; have n5_ := Aside0.mk ((by rw [hg]; exact Nat.ne_of_lt (blk_lt (g := gb23) (o := .cells #[.int .i64 a0_0, .slice A0_1 l0_1.length c0_1] 69 (0, 0)) zk) : gb23 ≠ gb24)); have n6_ := Aside0.mk ((by rw [hg]; exact Nat.ne_of_gt (blk_lt (g := gb23) (o := .cells #[.int .i64 a0_0, .slice A0_1 l0_1.length c0_1] 69 (0, 0)) zk) : gb24 ≠ gb23)); clear BK23; clear HB; have BK23 := n0_; have HB := n1_; have BK24 := n2_; have GW24 := n3_; have GE24 := n4_; have NB584_585 := n5_; have NB585_584 := n6_; clear n0_ n1_ n2_ n3_ n4_ n5_ n6_; clear hb hbox hg; have hnb8 := NB584_585.out; have hnc8 := NB585_584.out; obtain ⟨hcz9_0, hcz9_1, hfz9_0, hfz9_1⟩ := Lv.blks2 BK23.out; obtain ⟨hcz10_0, hcz10_1, hfz10_0, hfz10_1⟩ := Lv.blks2 BK24.out) | ((with_reducible refine gate_callee (f := 21) rfl ?_); refine goesL_ (some 14) rfl rfl Try.func21 (by kernel_rfl) rfl #[.slice A0_1 l0_1.length c0_1, .slice A1_1 l1_1.length c1_1] rfl zm ?_; (with_reducible refine (laws_eqCellS.calls k _ _ l0_1 _ _ l1_1 true _ ?side1 ?side2 ?side3 ?side4 A4.out).mono ?_); (case side1 => repeat (first | exact (Kd.C_below HR0_1.out HB.out) | (with_reducible first | refine Kd.C_alloc ?_ _ | refine Kd.C_drewN ?_ _ | refine Kd.C_drew ?_))); (case side2 => exact HC0_1.out); (case side3 => repeat (first | exact (Kd.C_below HR1_1.out HB.out) | (with_reducible first | refine Kd.C_alloc ?_ _ | refine Kd.C_drewN ?_ _ | refine Kd.C_drew ?_))); (case side4 => exact HC1_1.out); rintro e w11 ⟨rfl, hb⟩; refine ⟨_, rfl, ?_⟩; have n0_ := Aside0.mk (blk_below (g := gb23) (o := .cells #[.int .i64 a0_0, .slice A0_1 l0_1.length c0_1] 69 (0, 0)) zk hb); have n1_ := Aside0.mk (blk_below (g := gb24) (o := .cells #[.int .i64 a1_0, .slice A1_1 l1_1.length c1_1] 69 (0, 0)) zk hb); have n2_ := Aside0.mk (below_step zb hb); clear BK23; clear BK24; clear HB; have BK23 := n0_; have BK24 := n1_; have HB := n2_; clear n0_ n1_ n2_; (try clear hb); (try clear hb2); (try clear hk); (try clear hi)))
   go_ret
   exact ⟨ze, zb⟩
  replace c5 := Bool.eq_false_iff.mpr c5
  subst c5
  have H1 : (some false) = some r := by rw [if_neg (show ¬ (false = true) by decide)] at H; exact H
  clear H
  have H := H1
  clear H1
  obtain rfl := Option.some.inj H
  go_enter Try.func45, Try.ntmps45
  go_wp2_with (first | ((with_reducible refine gate_dst (N := 2) rfl ?_); refine box_event ?hg (N := 2) ?hd (cs := #[.int .i64 a0_0, .slice A0_1 l0_1.length c0_1]) (t := 69) ?hr ?_; (case hd => rfl); (case hg => rfl); (case hr => first | (go_simp; done) | (go_simp; rfl)); intro gb23 hg w12 hbox hb; have n0_ := Aside0.mk (below_step zb hb); have n1_ := Aside0.mk (hbox); have n2_ := Aside0.mk ((by rw [hg]; exact (below_size zb) : w.heap.size ≤ gb23)); have n3_ := n2_; clear HB; have HB := n0_; have BK23 := n1_; have GW23 := n2_; have GE23 := n3_; clear n0_ n1_ n2_ n3_; clear hb hbox hg) | ((with_reducible refine gate_dst (N := 3) rfl ?_); refine box_event ?hg (N := 3) ?hd (cs := #[.int .i64 a1_0, .slice A1_1 l1_1.length c1_1]) (t := 69) ?hr ?_; (case hd => rfl); (case hg => rfl); (case hr => first | (go_simp; done) | (go_simp; rfl)); intro gb24 hg w13 hbox hb; have n0_ := Aside0.mk (blk_below (g := gb23) (o := .cells #[.int .i64 a0_0, .slice A0_1 l0_1.length c0_1] 69 (0, 0)) zk hb); have n1_ := Aside0.mk (below_step zb hb); have n2_ := Aside0.mk (hbox); have n3_ := Aside0.mk ((by rw [hg]; exact (below_size zb) : w.heap.size ≤ gb24)); have n4_ := n3_; have n5_ := Aside0.mk ((by rw [hg]; exact Nat.ne_of_lt (blk_lt (g := gb23) (o := .cells #[.int .i64 a0_0, .slice A0_1 l0_1.length c0_1] 69 (0, 0)) zk) : gb23 ≠ gb24)); have n6_ := Aside0.mk ((by rw [hg]; exact Nat.ne_of_gt (blk_lt (g := gb23) (o := .cells #[.int .i64 a0_0, .slice A0_1 l0_1.length c0_1] 69 (0, 0)) zk) : gb24 ≠ gb23)); clear BK23; clear HB; have BK23 := n0_; have HB := n1_; have BK24 := n2_; have GW24 := n3_; have GE24 := n4_; have NB584_585 := n5_; have NB585_584 := n6_; clear n0_ n1_ n2_ n3_ n4_ n5_ n6_; clear hb hbox hg; have hnb14 := NB584_585.out; have hnc14 := NB585_584.out; obtain ⟨hcz15_0, hcz15_1, hfz15_0, hfz15_1⟩ := Lv.blks2 BK23.out; obtain ⟨hcz16_0, hcz16_1, hfz16_0, hfz16_1⟩ := Lv.blks2 BK24.out) | ((with_reducible refine gate_callee (f := 21) rfl ?_); refine goesL_ (some 14) rfl rfl Try.func21 (by kernel_rfl) rfl #[.slice A0_1 l0_1.length c0_1, .slice A1_1 l1_1.length c1_1] rfl zm ?_; (with_reducible refine (laws_eqCellS.calls k _ _ l0_1 _ _ l1_1 false _ ?side1 ?side2 ?side3 ?side4 A4.out).mono ?_); (case side1 => repeat (first | exact (Kd.C_below HR0_1.out HB.out) | (with_reducible first | refine Kd.C_alloc ?_ _ | refine Kd.C_drewN ?_ _ | refine Kd.C_drew ?_))); (case side2 => exact HC0_1.out); (case side3 => repeat (first | exact (Kd.C_below HR1_1.out HB.out) | (with_reducible first | refine Kd.C_alloc ?_ _ | refine Kd.C_drewN ?_ _ | refine Kd.C_drew ?_))); (case side4 => exact HC1_1.out); rintro e w17 ⟨rfl, hb⟩; refine ⟨_, rfl, ?_⟩; have n0_ := Aside0.mk (blk_below (g := gb23) (o := .cells #[.int .i64 a0_0, .slice A0_1 l0_1.length c0_1] 69 (0, 0)) zk hb); have n1_ := Aside0.mk (blk_below (g := gb24) (o := .cells #[.int .i64 a1_0, .slice A1_1 l1_1.length c1_1] 69 (0, 0)) zk hb); have n2_ := Aside0.mk (below_step zb hb); clear BK23; clear BK24; clear HB; have BK23 := n0_; have BK24 := n1_; have HB := n2_; clear n0_ n1_ n2_; (try clear hb); (try clear hb2); (try clear hk); (try clear hi)))
  go_ret
  exact ⟨ze, zb⟩
 rw [if_neg c3] at H
 have c3b0 : (a0_0 == a1_0) = false := beq_eq_false_iff_ne.mpr c3
 have c3b1 : (a0_0 != a1_0) = true := bne_iff_ne.mpr c3
 obtain rfl := Option.some.inj H
 go_enter Try.func45, Try.ntmps45
 go_wp2_with (first | ((with_reducible refine gate_dst (N := 2) rfl ?_); refine box_event ?hg (N := 2) ?hd (cs := #[.int .i64 a0_0, .slice A0_1 l0_1.length c0_1]) (t := 69) ?hr ?_; (case hd => rfl); (case hg => rfl); (case hr => first | (go_simp; done) | (go_simp; rfl)); intro gb23 hg w18 hbox hb; have n0_ := Aside0.mk (below_step zb hb); have n1_ := Aside0.mk (hbox); have n2_ := Aside0.mk ((by rw [hg]; exact (below_size zb) : w.heap.size ≤ gb23)); have n3_ := n2_; clear HB; have HB := n0_; have BK23 := n1_; have GW23 := n2_; have GE23 := n3_; clear n0_ n1_ n2_ n3_; clear hb hbox hg) | ((with_reducible refine gate_dst (N := 3) rfl ?_); refine box_event ?hg (N := 3) ?hd (cs := #[.int .i64 a1_0, .slice A1_1 l1_1.length c1_1]) (t := 69) ?hr ?_; (case hd => rfl); (case hg => rfl); (case hr => first | (go_simp; done) | (go_simp; rfl)); intro gb24 hg w19 hbox hb; have n0_ := Aside0.mk (blk_below (g := gb23) (o := .cells #[.int .i64 a0_0, .slice A0_1 l0_1.length c0_1] 69 (0, 0)) zk hb); have n1_ := Aside0.mk (below_step zb hb); have n2_ := Aside0.mk (hbox); have n3_ := Aside0.mk ((by rw [hg]; exact (below_size zb) : w.heap.size ≤ gb24)); have n4_ := n3_; have n5_ := Aside0.mk ((by rw [hg]; exact Nat.ne_of_lt (blk_lt (g := gb23) (o := .cells #[.int .i64 a0_0, .slice A0_1 l0_1.length c0_1] 69 (0, 0)) zk) : gb23 ≠ gb24)); have n6_ := Aside0.mk ((by rw [hg]; exact Nat.ne_of_gt (blk_lt (g := gb23) (o := .cells #[.int .i64 a0_0, .slice A0_1 l0_1.length c0_1] 69 (0, 0)) zk) : gb24 ≠ gb23)); clear BK23; clear HB; have BK23 := n0_; have HB := n1_; have BK24 := n2_; have GW24 := n3_; have GE24 := n4_; have NB584_585 := n5_; have NB585_584 := n6_; clear n0_ n1_ n2_ n3_ n4_ n5_ n6_; clear hb hbox hg; have hnb20 := NB584_585.out; have hnc20 := NB585_584.out; obtain ⟨hcz21_0, hcz21_1, hfz21_0, hfz21_1⟩ := Lv.blks2 BK23.out; obtain ⟨hcz22_0, hcz22_1, hfz22_0, hfz22_1⟩ := Lv.blks2 BK24.out))
 go_ret
 exact ⟨ze, zb⟩
set_option maxHeartbeats 8000000 in
set_option maxRecDepth 100000 in
theorem laws_markCellsResult.calls (k : Nat) (a0_0 : Int) (P0_1_ : Nat → Prop) (u9000_ : Value) (l0_1 : List (S105)) (a1 : Int) (r1 : Int) (r2 : List (S105)) (w0 w : World) (hB : Below w0.heap.size w0 w) (ho0_1 : Kd.R k105 105 w w0.heap.size P0_1_ u9000_ l0_1) (h : laws_markCellsResult.f k a0_0 l0_1 a1 = some (r1, r2)) :
 Calls Try.prog 46 #[.agg #[.int .i64 a0_0, u9000_], .int .i64 a1] w fun e w' => e = .returned (.int .i64 r1) ∧ Kd.R k105 105 w' w0.heap.size (fun k_ => (P0_1_ k_ ∨ w.heap.size ≤ k_)) u9000_ r2 ∧ Below w0.heap.size w0 w' ∧ Kept w w' (fun k_ => P0_1_ k_) := by
 have hu69 := Try.underlying69
 have HO0_1 := Aside0.mk (show Kd.R k105 105 w w0.heap.size (fun k_ => (P0_1_ k_ ∨ w.heap.size ≤ k_)) u9000_ l0_1 from Kd.R_mono ho0_1 (fun k_ hk => (.inl hk)))
 have HK := Aside0.mk (Kept.refl w (fun k_ => P0_1_ k_))
 have HW0 := Aside0.mk hB.size
 have HB := Aside0.mk hB
 clear hB
 have H : ((laws_markCellS.f k l0_1 a1).bind fun bt10 => (some (bt10.1, bt10.2))) = some (r1, r2) := h
 clear h
 replace H := Option.bind_eq_some_iff.mp H
 obtain ⟨⟨t10, t11⟩, A30, H⟩ := H
 replace H : (some (t10, t11)) = some (r1, r2) := H
 have A3 := Aside0.mk A30
 clear A30
 simp only [Option.some.injEq, Prod.mk.injEq] at H
 obtain ⟨rfl, rfl⟩ := H
 obtain ⟨Ao4, co4, eo4⟩ := Kd.R_slice HO0_1.out
 subst eo4
 go_enter Try.func46, Try.ntmps46
 go_wp2_with (first | ((with_reducible refine gate_dst (N := 2) rfl ?_); refine box_event ?hg (N := 2) ?hd (cs := #[.int .i64 a0_0, .slice Ao4 l0_1.length co4]) (t := 69) ?hr ?_; (case hd => rfl); (case hg => rfl); (case hr => first | (go_simp; done) | (go_simp; rfl)); intro gb9 hg w5 hbox hb; have n0_ := Aside0.mk (Kd.R_below (by (with_reducible repeat (first | apply Kd.R_alloc | apply Kd.R_drewN | apply Kd.R_drew)); exact HO0_1.out) hb); have n1_ := Aside0.mk (Kept.below (S := (fun k_ => P0_1_ k_)) (by repeat (first | (with_reducible first | exact HK.out | apply Kept.alloc | apply Kept.drewN | apply Kept.drew) | exact HK.out)) hb); have n2_ := Aside0.mk (below_step zb hb); have n3_ := Aside0.mk (hbox); have n4_ := Aside0.mk ((by rw [hg]; exact (by first | exact HK.out.1 | exact (show Kept w _ (fun k_ => P0_1_ k_) from by repeat (first | (with_reducible first | exact HK.out | apply Kept.alloc | apply Kept.drewN | apply Kept.drew) | exact HK.out)).1) : w.heap.size ≤ gb9)); have n5_ := Aside0.mk ((by rw [hg]; exact (below_size zb) : w0.heap.size ≤ gb9)); clear HO0_1; clear HK; clear HB; have HO0_1 := n0_; have HK := n1_; have HB := n2_; have BK9 := n3_; have GW9 := n4_; have GE9 := n5_; clear n0_ n1_ n2_ n3_ n4_ n5_; clear hb hbox hg; obtain ⟨hcz6_0, hcz6_1, hfz6_0, hfz6_1⟩ := Lv.blks2 BK9.out) | ((with_reducible refine gate_callee (f := 22) rfl ?_); refine goesL_ (some 8) rfl rfl Try.func22 (by kernel_rfl) rfl #[.slice Ao4 l0_1.length co4, .int .i64 a1] rfl zm ?_; (with_reducible refine (laws_markCellS.calls k (fun k_ => some k_ = (.slice Ao4 l0_1.length co4 : Value).ownBlock) (.slice Ao4 l0_1.length co4) l0_1 a1 t10 t11 w0 _ ?side1 ?side2 A3.out).mono ?_); (case side1 => repeat (first | (with_reducible first | exact HB.out | apply below_alloc | apply pw_below_drewN | apply below_drew1 | refine below_set ?_ GE9.out) | exact HB.out)); (case side2 => exact Kd.R_tight rfl HO0_1.out); rintro e w7 ⟨rfl, hy0, hb, hkp⟩; refine ⟨_, rfl, ?_⟩; have n0_ := Aside0.mk (Kd.R_reok rfl hy0 (fun k_ e_ => HO0_1.out.1 k_ e_)); have n1_ := Aside0.mk (blk_kept zk hkp (fun hs_ => (fun e_ => (Kd.R_ne HO0_1.out BK9.out (by decide)) e_) hs_)); have n2_ := Aside0.mk (Kept.then_ (S := (fun k_ => P0_1_ k_)) (by repeat (first | (with_reducible first | exact HK.out | apply Kept.alloc | apply Kept.drewN | apply Kept.drew | refine Kept.setCell ?_ (.inr GW9.out) _) | exact HK.out)) hkp (fun k_ hs_ => (fun e_ => (HO0_1.out.1 k_ e_.symm)) hs_)); have n3_ := Aside0.mk (hb); clear HO0_1; clear BK9; clear HK; clear HB; have HO0_1 := n0_; have BK9 := n1_; have HK := n2_; have HB := n3_; clear n0_ n1_ n2_ n3_; (try clear hb); (try clear hkp); (try clear hy0)))
 go_ret
 exact ⟨ze, by (with_reducible repeat (first | apply Kd.R_alloc | apply Kd.R_drewN | apply Kd.R_drew)); exact HO0_1.out, zb, by repeat (first | (with_reducible first | exact HK.out | apply Kept.alloc | apply Kept.drewN | apply Kept.drew | refine Kept.setCell ?_ (.inr GW9.out) _) | exact HK.out)⟩
set_option maxHeartbeats 8000000 in
set_option maxRecDepth 100000 in
theorem laws_heldCellS.calls (k : Nat) (A0 : Option Addr) (c0 : Nat) (l0 : List (S105)) (a1 : Int) (r : Int) (w : World) (hr0 : Kd.C k105 w A0 l0.length l0) (hc0 : l0.length ≤ c0) (h : laws_heldCellS.f k l0 a1 = some r) :
 Calls Try.prog 106 #[.slice A0 l0.length c0, .int .i64 a1] w fun e w' => e = .returned (.int .i64 r) ∧ Drawn0 w w' := by
 have HR0 := Aside0.mk hr0
 have HC0 := Aside0.mk hc0
 clear hr0 hc0
 have H : (laws_heldCellS.l0 k l0 a1 0) = some r := h
 clear h
 have H' := Aside0.mk H
 clear H
 go_enter Try.func106, Try.ntmps106
 go_wp2
 go_loopg [1, 5] k (fun kq v1 v5 w' => ∃ (x1_1 : Int) (x5_1 : Int), v1 = .int .i64 x1_1 ∧ v5 = .int .i64 x5_1 ∧ Aside0 (laws_heldCellS.l0 kq l0 x1_1 x5_1 = some r) ∧ Aside0 (kq ≤ k) ∧ Drawn0 w w')
 case atStart => exact ⟨(a1), (0), zs, zs, H', ⟨Nat.le_refl _⟩, zd⟩
 case round =>
  clear H'
  try clear c1
  try clear p2
  obtain ⟨x1_1, x5_1, rfl, rfl, HA, HK1, ⟨m1, rfl⟩⟩ := hrel
  cases gk with
  | zero => exact absurd HA.out (by simp [laws_heldCellS.l0])
  | succ k1 =>
   have H := HA.out
   clear HA
   simp only [laws_heldCellS.l0] at H
   by_cases c3 : x5_1 < (l0.length : Int)
   ·rw [if_pos c3] at H
    have c3b0 : decide (x5_1 < (l0.length : Int)) = true := decide_eq_true c3
    clear c3
    by_cases c4 : 0 ≤ x5_1
    ·rw [if_pos c4] at H
     have c4b0 : decide (0 ≤ x5_1) = true := decide_eq_true c4
     clear c4
     by_cases c5 : ((rd_T105 l0 x5_1).f0) = x1_1
     ·rw [if_pos c5] at H
      have c5b0 : (((rd_T105 l0 x5_1).f0) == x1_1) = true := beq_iff_eq.mpr c5
      have c5b1 : (((rd_T105 l0 x5_1).f0) != x1_1) = false := bne_eq_false_iff_eq.mpr c5
      clear c5
      by_cases c6 : ((rd_T105 l0 x5_1).f1) = (wrap64 (x1_1 + 1))
      ·rw [if_pos c6] at H
       have c6b0 : (((rd_T105 l0 x5_1).f1) == (wrap64 (x1_1 + 1))) = true := beq_iff_eq.mpr c6
       have c6b1 : (((rd_T105 l0 x5_1).f1) != (wrap64 (x1_1 + 1))) = false := bne_eq_false_iff_eq.mpr c6
       clear c6
       have H' := Aside0.mk H
       clear H
       have p590 : 0 ≤ (x5_1 : Int) := of_decide_eq_true za
       have q7 : x5_1 < (l0.length : Int) := of_decide_eq_true za
       obtain ⟨ad7, e590, hx7_0, hx7_1⟩ := at_T105 HR0.out x5_1 p590 q7
       cases e590
       replace p590 := eq_true p590
       replace q7 := eq_true q7
       have p591 : 0 ≤ (x5_1 : Int) := of_decide_eq_true za
       have q8 : x5_1 < (l0.length : Int) := of_decide_eq_true za
       obtain ⟨ad8, e591, hx8_0, hx8_1⟩ := at_T105 HR0.out x5_1 p591 q8
       obtain rfl : ad7 = ad8 := (by injection e591)
       replace p591 := eq_true p591
       replace q8 := eq_true q8
       go_wp2
       go_roundg k1
       case measure => have := HK1.out; omega
       case rel => exact ⟨(wrap64 ((wrap64 (x1_1 + 1)) + 1)), (wrap64 (x5_1 + 1)), zs, zs, H', ⟨by have := HK1.out; omega⟩, zd⟩
      rw [if_neg c6] at H
      have c6b0 : (((rd_T105 l0 x5_1).f1) == (wrap64 (x1_1 + 1))) = false := beq_eq_false_iff_ne.mpr c6
      have c6b1 : (((rd_T105 l0 x5_1).f1) != (wrap64 (x1_1 + 1))) = true := bne_iff_ne.mpr c6
      obtain rfl := Option.some.inj H
      have p590 : 0 ≤ (x5_1 : Int) := of_decide_eq_true za
      have q7 : x5_1 < (l0.length : Int) := of_decide_eq_true za
      obtain ⟨ad7, e590, hx7_0, hx7_1⟩ := at_T105 HR0.out x5_1 p590 q7
      cases e590
      replace p590 := eq_true p590
      replace q7 := eq_true q7
      have p591 : 0 ≤ (x5_1 : Int) := of_decide_eq_true za
      have q8 : x5_1 < (l0.length : Int) := of_decide_eq_true za
      obtain ⟨ad8, e591, hx8_0, hx8_1⟩ := at_T105 HR0.out x5_1 p591 q8
      obtain rfl : ad7 = ad8 := (by injection e591)
      replace p591 := eq_true p591
      replace q8 := eq_true q8
      go_wp2
      go_ret
      exact ⟨zs, zd⟩
     rw [if_neg c5] at H
     have c5b0 : (((rd_T105 l0 x5_1).f0) == x1_1) = false := beq_eq_false_iff_ne.mpr c5
     have c5b1 : (((rd_T105 l0 x5_1).f0) != x1_1) = true := bne_iff_ne.mpr c5
     obtain rfl := Option.some.inj H
     have p590 : 0 ≤ (x5_1 : Int) := of_decide_eq_true za
     have q7 : x5_1 < (l0.length : Int) := of_decide_eq_true za
     obtain ⟨ad7, e590, hx7_0, hx7_1⟩ := at_T105 HR0.out x5_1 p590 q7
     cases e590
     replace p590 := eq_true p590
     replace q7 := eq_true q7
     go_wp2
     go_ret
     exact ⟨zs, zd⟩
    rw [if_neg c4] at H
    exact absurd H (by simp)
   rw [if_neg c3] at H
   have c3b0 : decide (x5_1 < (l0.length : Int)) = false := decide_eq_false c3
   clear c3
   obtain rfl := Option.some.inj H
   go_wp2
   go_ret
   exact ⟨zs, zd⟩
set_option maxHeartbeats 8000000 in
set_option maxRecDepth 100000 in
theorem laws_heldCellsResult.calls (k : Nat) (a0_0 : Int) (A0_1 : Option Addr) (c0_1 : Nat) (l0_1 : List (S105)) (a1 : Int) (r : Int) (w : World) (hr0_1 : Kd.C k105 w A0_1 l0_1.length l0_1) (hc0_1 : l0_1.length ≤ c0_1) (h : laws_heldCellsResult.f k a0_0 l0_1 a1 = some r) :
 Calls Try.prog 47 #[.agg #[.int .i64 a0_0, .slice A0_1 l0_1.length c0_1], .int .i64 a1] w fun e w' => e = .returned (.int .i64 r) ∧ Below w.heap.size w w' := by
 have hu69 := Try.underlying69
 have HR0_1 := Aside0.mk hr0_1
 have HC0_1 := Aside0.mk hc0_1
 clear hr0_1 hc0_1
 have HB := Aside0.mk (Below.refl w.heap.size w)
 have H : ((laws_heldCellS.f k l0_1 a1).bind fun t10 => (if t10 < 0 then (some (-1)) else (some t10))) = some r := h
 clear h
 replace H := Option.bind_eq_some_iff.mp H
 obtain ⟨t10, A30, H⟩ := H
 replace H : (if t10 < 0 then (some (-1)) else (some t10)) = some r := H
 have A3 := Aside0.mk A30
 clear A30
 by_cases c4 : t10 < 0
 ·rw [if_pos c4] at H
  have c4b0 : decide (t10 < 0) = true := decide_eq_true c4
  clear c4
  obtain rfl := Option.some.inj H
  go_enter Try.func47, Try.ntmps47
  go_wp2_with (first | ((with_reducible refine gate_dst (N := 2) rfl ?_); refine box_event ?hg (N := 2) ?hd (cs := #[.int .i64 a0_0, .slice A0_1 l0_1.length c0_1]) (t := 69) ?hr ?_; (case hd => rfl); (case hg => rfl); (case hr => first | (go_simp; done) | (go_simp; rfl)); intro gb9 hg w5 hbox hb; have n0_ := Aside0.mk (below_step zb hb); have n1_ := Aside0.mk (hbox); have n2_ := Aside0.mk ((by rw [hg]; exact (below_size zb) : w.heap.size ≤ gb9)); have n3_ := n2_; clear HB; have HB := n0_; have BK9 := n1_; have GW9 := n2_; have GE9 := n3_; clear n0_ n1_ n2_ n3_; clear hb hbox hg; obtain ⟨hcz6_0, hcz6_1, hfz6_0, hfz6_1⟩ := Lv.blks2 BK9.out) | ((with_reducible refine gate_callee (f := 106) rfl ?_); refine goesL_ (some 8) rfl rfl Try.func106 (by kernel_rfl) rfl #[.slice A0_1 l0_1.length c0_1, .int .i64 a1] rfl zm ?_; (with_reducible refine (laws_heldCellS.calls k _ _ l0_1 a1 t10 _ ?side1 ?side2 A3.out).mono ?_); (case side1 => repeat (first | exact (Kd.C_below HR0_1.out HB.out) | (with_reducible first | refine Kd.C_alloc ?_ _ | refine Kd.C_drewN ?_ _ | refine Kd.C_drew ?_))); (case side2 => exact HC0_1.out); rintro e w' ⟨rfl, ⟨nd, rfl⟩⟩; refine ⟨_, rfl, ?_⟩))
  go_ret
  exact ⟨ze, zb⟩
 rw [if_neg c4] at H
 have c4b0 : decide (t10 < 0) = false := decide_eq_false c4
 clear c4
 obtain rfl := Option.some.inj H
 go_enter Try.func47, Try.ntmps47
 go_wp2_with (first | ((with_reducible refine gate_dst (N := 2) rfl ?_); refine box_event ?hg (N := 2) ?hd (cs := #[.int .i64 a0_0, .slice A0_1 l0_1.length c0_1]) (t := 69) ?hr ?_; (case hd => rfl); (case hg => rfl); (case hr => first | (go_simp; done) | (go_simp; rfl)); intro gb9 hg w7 hbox hb; have n0_ := Aside0.mk (below_step zb hb); have n1_ := Aside0.mk (hbox); have n2_ := Aside0.mk ((by rw [hg]; exact (below_size zb) : w.heap.size ≤ gb9)); have n3_ := n2_; clear HB; have HB := n0_; have BK9 := n1_; have GW9 := n2_; have GE9 := n3_; clear n0_ n1_ n2_ n3_; clear hb hbox hg; obtain ⟨hcz8_0, hcz8_1, hfz8_0, hfz8_1⟩ := Lv.blks2 BK9.out) | ((with_reducible refine gate_callee (f := 106) rfl ?_); refine goesL_ (some 8) rfl rfl Try.func106 (by kernel_rfl) rfl #[.slice A0_1 l0_1.length c0_1, .int .i64 a1] rfl zm ?_; (with_reducible refine (laws_heldCellS.calls k _ _ l0_1 a1 t10 _ ?side1 ?side2 A3.out).mono ?_); (case side1 => repeat (first | exact (Kd.C_below HR0_1.out HB.out) | (with_reducible first | refine Kd.C_alloc ?_ _ | refine Kd.C_drewN ?_ _ | refine Kd.C_drew ?_))); (case side2 => exact HC0_1.out); rintro e w' ⟨rfl, ⟨nd, rfl⟩⟩; refine ⟨_, rfl, ?_⟩))
 go_ret
 exact ⟨ze, zb⟩
end Go.Proofs.Ytonbnmaelepcbaa.P
