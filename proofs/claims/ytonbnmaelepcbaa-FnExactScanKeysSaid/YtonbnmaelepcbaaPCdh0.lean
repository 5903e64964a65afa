import Derived.Test.YtonbnmaelepcbaaP0
import Derived.Test.YtonbnmaelepcbaaPCacdefgh2
import Derived.Test.YtonbnmaelepcbaaPCacdefgh6
import Derived.Test.YtonbnmaelepcbaaPDacdefgh0
import Derived.Test.YtonbnmaelepcbaaPDm1
import Derived.Test.YtonbnmaelepcbaaWRepsOne
import Derived.Test.YtonbnmaelepcbaaLb
import Derived.Test.YtonbnmaelepcbaaLv
import Derived.IntWalk
import Derived.Shelf.Abstract
namespace Go.Proofs.Ytonbnmaelepcbaa.P
open Go.RowKit Go.Proofs.YtonbnmaelepcbaaW.PrintWords Go.Proofs.YtonbnmaelepcbaaW.PrintLast Go.Proofs.YtonbnmaelepcbaaW.PrintMore
attribute [local go_sem] max2_int min2_int max_two min_two max_three min_three max_four min_four   -- for this text's walks alone
set_option linter.unusedVariables false
set_option linter.unusedSimpArgs false
-- PROOF --
set_option maxHeartbeats 8000000 in
set_option maxRecDepth 100000 in
theorem spec_l6Asked.at {g : Nat} (k : Nat) (a0_0 a0_1 : Int) (A2 : Option Addr) (c2 : Nat) (l2 : List S83) (A3 : Option Addr) (c3 : Nat) (l3 : List S87) (id flt r1 r2 : Int) (w : World) (hr2 : Kd.C k83 w A2 l2.length l2) (hc2 : l2.length ≤ c2) (hr3 : Kd.C k87 w A3 l3.length l3) (hc3 : l3.length ≤ c3) (hf : spec_l6Fault.f k a0_0 a0_1 l2 l3 = some flt) (h : askedF flt l2 id = (r1, r2)) (hbx : Aside0 (w.heap[g]? = some (Obj.cells #[.int .i64 a0_0, .int .i64 a0_1, .slice A2 l2.length c2, .slice A3 l3.length c3] 31))) :
 Calls Try.prog 79 #[.pointer (some ⟨g, 0, none⟩), .int .i64 id] w fun e w' => e = .returned (.tuple #[.int .i64 r1, .int .i64 r2]) ∧ Below w.heap.size w w' := by
 have hu31 := Try.underlying31
 have hu83 := Try.underlying83
 have HB := Aside0.mk (Below.refl w.heap.size w)
 have HF := Aside0.mk hf
 clear hf
 have X0 := hbx
 clear hbx
 have HR2 := Aside0.mk hr2
 have HR3 := Aside0.mk hr3
 have HC2 := Aside0.mk hc2
 have HC3 := Aside0.mk hc3
 have hn2 := hr2.2.1
 have hn3 := hr3.2.1
 clear hr2 hr3 hc2 hc3
 unfold askedF at h
 obtain ⟨i, hi⟩ : ∃ i, i = Lb.idx (fun u : S83 => u.f0 == id) l2 := ⟨_, rfl⟩
 rw [← hi] at h
 have HI := Aside0.mk hi
 clear hi
 by_cases f0 : flt = 0
 ·rw [if_pos f0] at h
  have f1 : (flt == 0) = true := beq_iff_eq.2 f0
  have f2 : (flt != 0) = false := bne_eq_false_iff_eq.2 f0
  have F0 := Aside0.mk f0
  by_cases ci : i < 0
  ·rw [if_pos ci] at h
   obtain ⟨rfl, rfl⟩ := Prod.mk.inj h
   clear h
   have ci0 : decide (i < 0) = true := decide_eq_true ci
   go_enter Try.func79, Try.ntmps79
   go_wp2_with fail
   refine (spec_l6Fault.calls (g := g) k a0_0 a0_1 A2 c2 l2 A3 c3 l3 flt w HR2.out HC2.out HR3.out HC3.out HF.out X0).mono ?_
   rintro e u1 ⟨rfl, hb⟩
   have hsz := hb.size
   replace HB := Aside0.mk (show Below w.heap.size w u1 from below_step HB.out hb)
   replace X0 := Aside0.mk (keepB hb X0.out)
   have z1 := Aside0.mk hsz
   clear hsz
   have cX0_0 : u1.cell? ⟨g, 0, none⟩ = some (.int .i64 a0_0) := (blk_cell X0.out 0).trans rfl
   have cX0_1 : u1.cell? ⟨g, 1, none⟩ = some (.int .i64 a0_1) := (blk_cell X0.out 1).trans rfl
   have cX0_2 : u1.cell? ⟨g, 2, none⟩ = some (.slice A2 l2.length c2) := (blk_cell X0.out 2).trans rfl
   have cX0_3 : u1.cell? ⟨g, 3, none⟩ = some (.slice A3 l3.length c3) := (blk_cell X0.out 3).trans rfl
   have lX0 : g < u1.heap.size := blk_lt X0.out
   have nX0 : g ≠ u1.heap.size := Nat.ne_of_lt (blk_lt X0.out)
   go_wp2_with fail
   refine Calls.mono (spec_l6Txn.at ⟨g, 0, none⟩ _ c2 l2 id _ cX0_2 (Kd.C_below HR2.out HB.out)) ?_
   rw [← HI.out]
   rintro e w' ⟨rfl, rfl⟩
   go_wp2_with fail
   go_ret2
   exact ⟨rfl, HB.out⟩
  rw [if_neg ci] at h
  have ci0 : decide (i < 0) = false := decide_eq_false ci
  have i0 : 0 ≤ i := by omega
  have i1 : i < (l2.length : Int) := by rw [HI.out]; exact idx_lt _ _ (by rw [← HI.out]; exact i0)
  obtain ⟨Y, hY⟩ : ∃ x, x = l2.getD i.toNat z83 := ⟨_, rfl⟩
  rw [← hY] at h
  have HY := Aside0.mk hY
  clear hY
  rcases hb_ (Y.f2 == 1) with cy | cy
  ·rw [if_pos cy] at h
   obtain ⟨rfl, rfl⟩ := Prod.mk.inj h
   clear h
   have cy1 : (Y.f2 != 1) = false := by simp [bne, cy]
   go_enter Try.func79, Try.ntmps79
   go_wp2_with fail
   refine (spec_l6Fault.calls (g := g) k a0_0 a0_1 A2 c2 l2 A3 c3 l3 flt w HR2.out HC2.out HR3.out HC3.out HF.out X0).mono ?_
   rintro e u1 ⟨rfl, hb⟩
   have hsz := hb.size
   replace HB := Aside0.mk (show Below w.heap.size w u1 from below_step HB.out hb)
   replace X0 := Aside0.mk (keepB hb X0.out)
   have z1 := Aside0.mk hsz
   clear hsz
   obtain ⟨ad, A4, c4, ea, -, -, hy2, -, -, -, -⟩ := at_T83 (Kd.C_below HR2.out HB.out) i i0 i1
   cases ea
   rw [show rd_T83 l2 i = Y from HY.out.symm] at hy2
   have cX0_0 : u1.cell? ⟨g, 0, none⟩ = some (.int .i64 a0_0) := (blk_cell X0.out 0).trans rfl
   have cX0_1 : u1.cell? ⟨g, 1, none⟩ = some (.int .i64 a0_1) := (blk_cell X0.out 1).trans rfl
   have cX0_2 : u1.cell? ⟨g, 2, none⟩ = some (.slice (some ad) l2.length c2) := (blk_cell X0.out 2).trans rfl
   have cX0_3 : u1.cell? ⟨g, 3, none⟩ = some (.slice A3 l3.length c3) := (blk_cell X0.out 3).trans rfl
   have lX0 : g < u1.heap.size := blk_lt X0.out
   have nX0 : g ≠ u1.heap.size := Nat.ne_of_lt (blk_lt X0.out)
   go_wp2_with fail
   refine Calls.mono (spec_l6Txn.at ⟨g, 0, none⟩ _ c2 l2 id _ cX0_2 (Kd.C_below HR2.out HB.out)) ?_
   rw [← HI.out]
   rintro e w' ⟨rfl, rfl⟩
   go_wp2_with fail
   go_ret2
   exact ⟨rfl, HB.out⟩
  rw [if_neg (by rw [cy]; decide)] at h
  obtain ⟨rfl, rfl⟩ := Prod.mk.inj h
  clear h
  have cy1 : (Y.f2 != 1) = true := by simp [bne, cy]
  go_enter Try.func79, Try.ntmps79
  go_wp2_with fail
  refine (spec_l6Fault.calls (g := g) k a0_0 a0_1 A2 c2 l2 A3 c3 l3 flt w HR2.out HC2.out HR3.out HC3.out HF.out X0).mono ?_
  rintro e u1 ⟨rfl, hb⟩
  have hsz := hb.size
  replace HB := Aside0.mk (show Below w.heap.size w u1 from below_step HB.out hb)
  replace X0 := Aside0.mk (keepB hb X0.out)
  have z1 := Aside0.mk hsz
  clear hsz
  obtain ⟨ad, A4, c4, ea, -, -, hy2, -, -, -, -⟩ := at_T83 (Kd.C_below HR2.out HB.out) i i0 i1
  cases ea
  rw [show rd_T83 l2 i = Y from HY.out.symm] at hy2
  have cX0_0 : u1.cell? ⟨g, 0, none⟩ = some (.int .i64 a0_0) := (blk_cell X0.out 0).trans rfl
  have cX0_1 : u1.cell? ⟨g, 1, none⟩ = some (.int .i64 a0_1) := (blk_cell X0.out 1).trans rfl
  have cX0_2 : u1.cell? ⟨g, 2, none⟩ = some (.slice (some ad) l2.length c2) := (blk_cell X0.out 2).trans rfl
  have cX0_3 : u1.cell? ⟨g, 3, none⟩ = some (.slice A3 l3.length c3) := (blk_cell X0.out 3).trans rfl
  have lX0 : g < u1.heap.size := blk_lt X0.out
  have nX0 : g ≠ u1.heap.size := Nat.ne_of_lt (blk_lt X0.out)
  go_wp2_with fail
  refine Calls.mono (spec_l6Txn.at ⟨g, 0, none⟩ _ c2 l2 id _ cX0_2 (Kd.C_below HR2.out HB.out)) ?_
  rw [← HI.out]
  rintro e w' ⟨rfl, rfl⟩
  go_wp2_with fail
  go_ret2
  exact ⟨rfl, HB.out⟩
 rw [if_neg f0] at h
 obtain ⟨rfl, rfl⟩ := Prod.mk.inj h
 clear h
 have f1 : (flt == 0) = false := beq_eq_false_iff_ne.2 f0
 have f2 : (flt != 0) = true := bne_iff_ne.2 f0
 go_enter Try.func79, Try.ntmps79
 go_wp2_with fail
 refine (spec_l6Fault.calls (g := g) k a0_0 a0_1 A2 c2 l2 A3 c3 l3 flt w HR2.out HC2.out HR3.out HC3.out HF.out X0).mono ?_
 rintro e u1 ⟨rfl, hb⟩
 have hsz := hb.size
 replace HB := Aside0.mk (show Below w.heap.size w u1 from below_step HB.out hb)
 replace X0 := Aside0.mk (keepB hb X0.out)
 have z1 := Aside0.mk hsz
 clear hsz
 go_wp2_with fail
 go_ret2
 exact ⟨rfl, HB.out⟩
theorem askedF_ok {flt : Int} {l2 : List S83} {id : Int} (h : (askedF flt l2 id).2 = 0) : 0 ≤ (askedF flt l2 id).1 ∧ (askedF flt l2 id).1 < (l2.length : Int) := by
 unfold askedF at *
 by_cases c1 : flt = 0
 ·rw [if_pos c1] at h ⊢
  by_cases c2 : Lb.idx (fun u : S83 => u.f0 == id) l2 < 0
  ·rw [if_pos c2] at h; simp at h
  rw [if_neg c2] at h ⊢
  by_cases c3 : ((l2.getD (Lb.idx (fun u : S83 => u.f0 == id) l2).toNat z83).f2 == 1) = true
  ·rw [if_pos c3]; exact ⟨by simpa using c2, idx_lt _ _ (by omega)⟩
  rw [if_neg c3] at h; simp at h
 rw [if_neg c1] at h; exact absurd h c1
end Go.Proofs.Ytonbnmaelepcbaa.P
