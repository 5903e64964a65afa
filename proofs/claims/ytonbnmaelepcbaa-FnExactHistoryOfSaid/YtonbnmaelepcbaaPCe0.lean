import Derived.Test.YtonbnmaelepcbaaP0
import Derived.Test.YtonbnmaelepcbaaPCacdefgh2
import Derived.Test.YtonbnmaelepcbaaPCacdefgh6
import Derived.Test.YtonbnmaelepcbaaPCall1
import Derived.Test.YtonbnmaelepcbaaPCbe0
import Derived.Test.YtonbnmaelepcbaaPCbefh0
import Derived.Test.YtonbnmaelepcbaaPDacdefgh0
import Derived.Test.YtonbnmaelepcbaaPDm0
import Derived.Test.YtonbnmaelepcbaaPDm1
import Derived.Test.YtonbnmaelepcbaaPDm2
import Derived.Test.YtonbnmaelepcbaaWRepsOne
import Derived.Test.YtonbnmaelepcbaaLb
import Derived.Test.YtonbnmaelepcbaaLv
import Derived.IntWalk
import Derived.Shelf.Abstract
import Derived.Lib.SliceRun
import Derived.Test.YtonbnmaelepcbaaLv
import Derived.Test.YtonbnmaelepcbaaLv
import Derived.Test.YtonbnmaelepcbaaLv
namespace Go.Proofs.Ytonbnmaelepcbaa.P
open Go.RowKit Go.Proofs.YtonbnmaelepcbaaW.PrintWords Go.Proofs.YtonbnmaelepcbaaW.PrintLast Go.Proofs.YtonbnmaelepcbaaW.PrintMore
attribute [local go_sem] max2_int min2_int max_two min_two max_three min_three max_four min_four   -- for this text's walks alone
set_option linter.unusedVariables false
set_option linter.unusedSimpArgs false
set_option maxHeartbeats 8000000 in
set_option maxRecDepth 100000 in
theorem spec_l5Copy.calls (A0 : Option Addr) (c0 : Nat) (l0 : List (S90)) (r : List (S90)) (w : World) (hr0 : Kd.C k90 w A0 l0.length l0) (hc0 : l0.length ≤ c0) (h : spec_l5Copy.f l0 = some r) :
 Calls Try.prog 86 #[.slice A0 l0.length c0] w fun e w' => ∃ v0_ : Value, e = .returned (v0_) ∧ Kd.R k90 90 w' w.heap.size (fun _ => True) v0_ r ∧ Below w.heap.size w w' := by
 have HR0 := Aside0.mk hr0
 have HC0 := Aside0.mk hc0
 clear hr0 hc0
 have HB := Aside0.mk (Below.refl w.heap.size w)
 have H : ((some (([] : List (S90)) : List (S90))).bind fun y6 => (if y6.length + l0.length < 4398046511104 then (some (y6 ++ l0)) else (none))) = some r := h
 clear h
 obtain ⟨y6, hy6⟩ : ∃ y_ : List (S90), y_ = (([] : List (S90))) := ⟨_, rfl⟩
 replace H : (if y6.length + l0.length < 4398046511104 then (some (y6 ++ l0)) else (none)) = some r := by first | (rw [hy6]; with_reducible exact H) | (have H2_ := (Option.bind_some _ _).symm.trans H; rw [hy6]; with_reducible exact H2_) | (have H2_ := (Option.bind_some _ _).symm.trans H; with_reducible exact H2_) | with_reducible exact H | (rw [hy6]; exact H) | exact H
 have Ny6 := Aside0.mk hy6
 clear hy6
 by_cases c2 : y6.length + l0.length < 4398046511104
 ·rw [if_pos c2] at H
  have LMc2 := Aside0.mk c2
  clear c2
  obtain ⟨y7, hy7⟩ : ∃ y_ : List (S90), y_ = (y6 ++ l0) := ⟨_, rfl⟩
  replace H : (some y7) = some r := by first | (rw [hy7]; with_reducible exact H) | (have H2_ := (Option.bind_some _ _).symm.trans H; rw [hy7]; with_reducible exact H2_) | (have H2_ := (Option.bind_some _ _).symm.trans H; with_reducible exact H2_) | with_reducible exact H | (rw [hy7]; exact H) | exact H
  have Ny7 := Aside0.mk hy7
  clear hy7
  obtain rfl := Option.some.inj H
  go_enter Try.func86, Try.ntmps86
  go_wp2_with (first | ((with_reducible refine gate_dst (N := 3) rfl ?_); refine Kd.R_lit k90 _ 90 ?hg (N := 3) ?hd (xs := ([] : List (S90))) (inner := []) (ok := fun _ => True) (okp := fun _ => True) ?hr ?hp (fun _ hk => hk) trivial (Below.refl _ _) (Nat.le_refl _) (by simp) ?_; (case hd => rfl); (case hg => rfl); (case hr => first | (go_simp; done) | (go_simp; rfl)); (case hp => exact (Reps.none _ _)); intro v9 w3 ho4 hb hg_ hnew_; clear hg_ hnew_; (first | rw [← Ny6.out] at ho4 | (simp only [Int.reduceToNat] at ho4; rw [← Ny6.out] at ho4)); have n0_ := Aside0.mk (Kd.R_lower ho4 (below_size (by apply_rules [HB.out, below_alloc, pw_below_drewN, below_drew1]))); have n1_ := Aside0.mk (below_step (by apply_rules [HB.out, below_alloc, pw_below_drewN, below_drew1]) hb); clear HB; have HO8 := n0_; have HB := n1_; clear n0_ n1_; clear hb ho4) | ((with_reducible refine gate_builtin (b := .append) (xs := #[.tmp 3, .tmp 4]) rfl ?_); at_builtin; refine Kd.R_append_rows k90 (w0 := w) w.heap.size rfl (.tmp 3) (.tmp 4) 53 90 (.agg #[(.int .i64 0), (.int .i64 0), (.bool false), (.int .i64 0)]) 32 rfl Try.underlying53 info90 rfl (by decide) (by omega) v9 y6 l0 _ _ _ (fun _ => True) (fun _ => False) rfl rfl ?aO ?aR (fun _ _ h => h) (fun _ h => h.elim) ?aF ?aB ?aS ?aL ?_; (case aR => repeat (first | exact (Kd.C_below HR0.out HB.out) | (with_reducible first | refine Kd.C_alloc ?_ _ | refine Kd.C_drewN ?_ _ | refine Kd.C_drew ?_))); (case aB => exact (by apply_rules [HB.out, below_alloc, pw_below_drewN, below_drew1])); (case aF => exact (fun _ _ => trivial)); (case aO => exact (by (with_reducible repeat (first | apply Kd.R_alloc | apply Kd.R_drewN | apply Kd.R_drew)); exact HO8.out)); (case aS => exact (below_size (by apply_rules [HB.out, below_alloc, pw_below_drewN, below_drew1]))); (case aL => have := LMc2.out; omega); intro v11 w5 ho hb hg hat; rw [← Ny7.out] at ho; have n0_ := Aside0.mk (hb); have n1_ := Aside0.mk (ho); clear HB; clear HO8; have HB := n0_; have HO10 := n1_; clear n0_ n1_; clear ho hb hg hat))
  go_ret
  exact ⟨_, by first | rfl | (simp [errW_none, errW_some] <;> rfl) | (simp [*, errW_none, errW_some] <;> rfl), by (with_reducible repeat (first | apply Kd.R_alloc | apply Kd.R_drewN | apply Kd.R_drew)); exact HO10.out, by apply_rules [HB.out, below_alloc, pw_below_drewN, below_drew1]⟩
 rw [if_neg c2] at H
 exact absurd H (by simp)
-- PROOF --
set_option maxHeartbeats 8000000 in
set_option maxRecDepth 100000 in
theorem spec_HistoryOf.calls (k : Nat) (a0_0 a0_1 : Int) (A2 : Option Addr) (c2 : Nat) (l2 : List S83) (A3 : Option Addr) (c3 : Nat) (l3 : List S87) (key r1 : Int) (r2 : List S90) (w : World) (hr2 : Kd.C k83 w A2 l2.length l2) (hc2 : l2.length ≤ c2) (hr3 : Kd.C k87 w A3 l3.length l3) (hc3 : l3.length ≤ c3) (h : spec_HistoryOf.f k a0_0 a0_1 l2 l3 key = some (r1, r2)) :
 Calls Try.prog 30 #[.agg #[.int .i64 a0_0, .int .i64 a0_1, .slice A2 l2.length c2, .slice A3 l3.length c3], .int .i64 key] w fun e w' => ∃ v1_ : Value, e = .returned (.agg #[.int .i64 r1, v1_]) ∧ Kd.R k90 90 w' w.heap.size (fun _ => True) v1_ r2 ∧ Below w.heap.size w w' := by
 have hu31 := Try.underlying31
 have hu55 := Try.underlying55
 have hu87 := Try.underlying87
 have HB := Aside0.mk (Below.refl w.heap.size w)
 have HR2 := Aside0.mk hr2
 have HR3 := Aside0.mk hr3
 have HC2 := Aside0.mk hc2
 have HC3 := Aside0.mk hc3
 have hn2 := hr2.2.1
 have hn3 := hr3.2.1
 clear hr2 hr3 hc2 hc3
 unfold spec_HistoryOf.f at h
 obtain ⟨flt, hf, h⟩ := Option.bind_eq_some_iff.mp h
 have HF := Aside0.mk hf
 clear hf
 by_cases f0 : flt = 0
 ·rw [if_pos f0] at h
  have f1 : (flt == 0) = true := beq_iff_eq.2 f0
  have f2 : (flt != 0) = false := bne_eq_false_iff_eq.2 f0
  have F0 := Aside0.mk f0
  rcases hb_ (inB key 0 31) with ck | ck
  ·rw [if_pos ck] at h
   obtain ⟨i, hi⟩ : ∃ i, i = Lb.idx (fun u : S87 => u.f0 == key) l3 := ⟨_, rfl⟩
   rw [← hi] at h
   have HI := Aside0.mk hi
   clear hi
   by_cases ci : i < 0
   ·rw [if_pos ci] at h
    simp only [Option.some.injEq, Prod.mk.injEq] at h
    obtain ⟨rfl, rfl⟩ := h
    have ci0 : decide (i < 0) = true := decide_eq_true ci
    go_enter Try.func30, Try.ntmps30
    go_wp2_with fail
    have hb : Below w.heap.size w (w.alloc (Obj.cells #[.int .i64 a0_0, .int .i64 a0_1, .slice A2 l2.length c2, .slice A3 l3.length c3] 31)) := below_alloc (Below.refl _ _) _
    have hbx := blk_new w (Obj.cells #[.int .i64 a0_0, .int .i64 a0_1, .slice A2 l2.length c2, .slice A3 l3.length c3] 31)
    have hsz : w.heap.size + 1 = (w.alloc (Obj.cells #[.int .i64 a0_0, .int .i64 a0_1, .slice A2 l2.length c2, .slice A3 l3.length c3] 31)).heap.size := by simp
    replace HB := Aside0.mk (below_alloc HB.out (Obj.cells #[.int .i64 a0_0, .int .i64 a0_1, .slice A2 l2.length c2, .slice A3 l3.length c3] 31))
    have hbz := Aside0.mk hb
    have hbxz := Aside0.mk hbx
    have hszz := Aside0.mk hsz
    clear hb hbx hsz
    generalize w.alloc (Obj.cells #[.int .i64 a0_0, .int .i64 a0_1, .slice A2 l2.length c2, .slice A3 l3.length c3] 31) = u1 at HB hbz hbxz hszz ⊢
    have X1 := hbxz
    have z1 := hszz
    clear hbz hbxz hszz
    have hb : Below u1.heap.size u1 (u1.alloc (Obj.cells #[.int .i64 0, .slice none 0 0] 55)) := below_alloc (Below.refl _ _) _
    have hbx := blk_new u1 (Obj.cells #[.int .i64 0, .slice none 0 0] 55)
    have hsz : u1.heap.size + 1 = (u1.alloc (Obj.cells #[.int .i64 0, .slice none 0 0] 55)).heap.size := by simp
    replace HB := Aside0.mk (below_alloc HB.out (Obj.cells #[.int .i64 0, .slice none 0 0] 55))
    rw [← z1.out] at hbx
    replace X1 := Aside0.mk (keepB hb X1.out)
    have hbz := Aside0.mk hb
    have hbxz := Aside0.mk hbx
    have hszz := Aside0.mk hsz
    clear hb hbx hsz
    generalize u1.alloc (Obj.cells #[.int .i64 0, .slice none 0 0] 55) = u2 at HB hbz hbxz hszz X1 ⊢
    have X2 := hbxz
    have z2 := hszz
    clear hbz hbxz hszz
    have GEX2 := Aside0.mk (show w.heap.size ≤ w.heap.size + 1 from by have qz1_ := z1.out; have qz2_ := z2.out; omega)
    refine (spec_l6Fault.calls (g := w.heap.size) k a0_0 a0_1 A2 c2 l2 A3 c3 l3 flt _ (Kd.C_below HR2.out HB.out) HC2.out (Kd.C_below HR3.out HB.out) HC3.out HF.out X1).mono ?_
    rintro e u3 ⟨rfl, hb⟩
    have hsz := hb.size
    replace HB := Aside0.mk (show Below w.heap.size w u3 from below_step HB.out hb)
    replace X1 := Aside0.mk (keepB hb X1.out)
    replace X2 := Aside0.mk (keepB hb X2.out)
    have z3 := Aside0.mk hsz
    clear hsz
    have cX1_0 : u3.cell? ⟨w.heap.size, 0, none⟩ = some (.int .i64 a0_0) := (blk_cell X1.out 0).trans rfl
    have cX1_1 : u3.cell? ⟨w.heap.size, 1, none⟩ = some (.int .i64 a0_1) := (blk_cell X1.out 1).trans rfl
    have cX1_2 : u3.cell? ⟨w.heap.size, 2, none⟩ = some (.slice A2 l2.length c2) := (blk_cell X1.out 2).trans rfl
    have cX1_3 : u3.cell? ⟨w.heap.size, 3, none⟩ = some (.slice A3 l3.length c3) := (blk_cell X1.out 3).trans rfl
    have lX1 : w.heap.size < u3.heap.size := blk_lt X1.out
    have nX1 : w.heap.size ≠ u3.heap.size := Nat.ne_of_lt (blk_lt X1.out)
    have cX2_0 : u3.cell? ⟨w.heap.size + 1, 0, none⟩ = some (.int .i64 0) := (blk_cell X2.out 0).trans rfl
    have fX2_0 : u3.frozen? ⟨w.heap.size + 1, 0, none⟩ = false := blk_frozen X2.out 0
    have cX2_1 : u3.cell? ⟨w.heap.size + 1, 1, none⟩ = some (.slice none 0 0) := (blk_cell X2.out 1).trans rfl
    have fX2_1 : u3.frozen? ⟨w.heap.size + 1, 1, none⟩ = false := blk_frozen X2.out 1
    have lX2 : w.heap.size + 1 < u3.heap.size := blk_lt X2.out
    have nX2 : w.heap.size + 1 ≠ u3.heap.size := Nat.ne_of_lt (blk_lt X2.out)
    go_wp2_with (go_at_call 71; refine (cKey _ _).mono ?_; rintro e w' ⟨rfl, n, rfl⟩)
    refine Calls.mono (spec_l6Row.at ⟨w.heap.size, 0, none⟩ _ c3 l3 key _ cX1_3 (by first | exact Kd.C_drewN (Kd.C_below HR3.out HB.out) _ | exact Kd.C_below HR3.out HB.out)) ?_
    rw [← HI.out]
    rintro e w' ⟨rfl, rfl⟩
    go_wp2_with fail
    refine bodyPost_ret (results_cell_row rfl _ _ (w.heap.size + 1) 55 #[.int .i64 0, .slice none 0 0] (0, 0) _ rfl (by (with_reducible repeat (first | refine blk_drewN ?_ _ | refine blk_drew ?_ | refine blk_alloc ?_ _)); refine blk_put (cs := #[.int .i64 0, .slice none 0 0]) ?_ 1 _ rfl; (with_reducible repeat (first | refine blk_drewN ?_ _ | refine blk_drew ?_ | refine blk_alloc ?_ _)); refine blk_put (cs := #[.int .i64 0, .slice none 0 0]) ?_ 0 _ rfl; apply_rules [X2.out, blk_drewN, blk_drew, blk_alloc]) Try.underlying55 rfl (by kernel_rfl)) rfl ?_
    exact ⟨_, rfl, Kd.R_nil _ _ _ _ _, (by apply_rules [HB.out, below_alloc, pw_below_drewN, below_drew1, below_set, GEX2.out])⟩
   rw [if_neg ci] at h
   obtain ⟨c, hcl, h⟩ := Option.bind_eq_some_iff.mp h
   simp only [Option.some.injEq, Prod.mk.injEq] at h
   obtain ⟨rfl, rfl⟩ := h
   have HCL := Aside0.mk hcl
   clear hcl
   have ci0 : decide (i < 0) = false := decide_eq_false ci
   have i0 : 0 ≤ i := by omega
   have i1 : i < (l3.length : Int) := by rw [HI.out]; exact idx_lt _ _ (by rw [← HI.out]; exact i0)
   go_enter Try.func30, Try.ntmps30
   go_wp2_with fail
   have hb : Below w.heap.size w (w.alloc (Obj.cells #[.int .i64 a0_0, .int .i64 a0_1, .slice A2 l2.length c2, .slice A3 l3.length c3] 31)) := below_alloc (Below.refl _ _) _
   have hbx := blk_new w (Obj.cells #[.int .i64 a0_0, .int .i64 a0_1, .slice A2 l2.length c2, .slice A3 l3.length c3] 31)
   have hsz : w.heap.size + 1 = (w.alloc (Obj.cells #[.int .i64 a0_0, .int .i64 a0_1, .slice A2 l2.length c2, .slice A3 l3.length c3] 31)).heap.size := by simp
   replace HB := Aside0.mk (below_alloc HB.out (Obj.cells #[.int .i64 a0_0, .int .i64 a0_1, .slice A2 l2.length c2, .slice A3 l3.length c3] 31))
   have hbz := Aside0.mk hb
   have hbxz := Aside0.mk hbx
   have hszz := Aside0.mk hsz
   clear hb hbx hsz
   generalize w.alloc (Obj.cells #[.int .i64 a0_0, .int .i64 a0_1, .slice A2 l2.length c2, .slice A3 l3.length c3] 31) = u1 at HB hbz hbxz hszz ⊢
   have X1 := hbxz
   have z1 := hszz
   clear hbz hbxz hszz
   have hb : Below u1.heap.size u1 (u1.alloc (Obj.cells #[.int .i64 0, .slice none 0 0] 55)) := below_alloc (Below.refl _ _) _
   have hbx := blk_new u1 (Obj.cells #[.int .i64 0, .slice none 0 0] 55)
   have hsz : u1.heap.size + 1 = (u1.alloc (Obj.cells #[.int .i64 0, .slice none 0 0] 55)).heap.size := by simp
   replace HB := Aside0.mk (below_alloc HB.out (Obj.cells #[.int .i64 0, .slice none 0 0] 55))
   rw [← z1.out] at hbx
   replace X1 := Aside0.mk (keepB hb X1.out)
   have hbz := Aside0.mk hb
   have hbxz := Aside0.mk hbx
   have hszz := Aside0.mk hsz
   clear hb hbx hsz
   generalize u1.alloc (Obj.cells #[.int .i64 0, .slice none 0 0] 55) = u2 at HB hbz hbxz hszz X1 ⊢
   have X2 := hbxz
   have z2 := hszz
   clear hbz hbxz hszz
   have GEX2 := Aside0.mk (show w.heap.size ≤ w.heap.size + 1 from by have qz1_ := z1.out; have qz2_ := z2.out; omega)
   refine (spec_l6Fault.calls (g := w.heap.size) k a0_0 a0_1 A2 c2 l2 A3 c3 l3 flt _ (Kd.C_below HR2.out HB.out) HC2.out (Kd.C_below HR3.out HB.out) HC3.out HF.out X1).mono ?_
   rintro e u3 ⟨rfl, hb⟩
   have hsz := hb.size
   replace HB := Aside0.mk (show Below w.heap.size w u3 from below_step HB.out hb)
   replace X1 := Aside0.mk (keepB hb X1.out)
   replace X2 := Aside0.mk (keepB hb X2.out)
   have z3 := Aside0.mk hsz
   clear hsz
   have cX1_0 : u3.cell? ⟨w.heap.size, 0, none⟩ = some (.int .i64 a0_0) := (blk_cell X1.out 0).trans rfl
   have cX1_1 : u3.cell? ⟨w.heap.size, 1, none⟩ = some (.int .i64 a0_1) := (blk_cell X1.out 1).trans rfl
   have cX1_2 : u3.cell? ⟨w.heap.size, 2, none⟩ = some (.slice A2 l2.length c2) := (blk_cell X1.out 2).trans rfl
   have cX1_3 : u3.cell? ⟨w.heap.size, 3, none⟩ = some (.slice A3 l3.length c3) := (blk_cell X1.out 3).trans rfl
   have lX1 : w.heap.size < u3.heap.size := blk_lt X1.out
   have nX1 : w.heap.size ≠ u3.heap.size := Nat.ne_of_lt (blk_lt X1.out)
   have cX2_0 : u3.cell? ⟨w.heap.size + 1, 0, none⟩ = some (.int .i64 0) := (blk_cell X2.out 0).trans rfl
   have fX2_0 : u3.frozen? ⟨w.heap.size + 1, 0, none⟩ = false := blk_frozen X2.out 0
   have cX2_1 : u3.cell? ⟨w.heap.size + 1, 1, none⟩ = some (.slice none 0 0) := (blk_cell X2.out 1).trans rfl
   have fX2_1 : u3.frozen? ⟨w.heap.size + 1, 1, none⟩ = false := blk_frozen X2.out 1
   have lX2 : w.heap.size + 1 < u3.heap.size := blk_lt X2.out
   have nX2 : w.heap.size + 1 ≠ u3.heap.size := Nat.ne_of_lt (blk_lt X2.out)
   go_wp2_with (go_at_call 71; refine (cKey _ _).mono ?_; rintro e w' ⟨rfl, n, rfl⟩)
   obtain ⟨ad, A1, c1, ea, -, hy1, hl1, hr1⟩ := at_T87 (Kd.C_below HR3.out HB.out) i i0 i1
   cases ea
   obtain ⟨Y, hY⟩ : ∃ x, x = l3.getD i.toNat z87 := ⟨_, rfl⟩
   rw [show rd_T87 l3 i = Y from hY.symm] at hy1 hl1 hr1
   have HCL2 := Aside0.mk (show spec_l5Copy.f Y.f1 = some c from by rw [hY]; exact HCL.out)
   have HR1 := Aside0.mk hr1
   have HL1 := Aside0.mk hl1
   clear hY hr1 hl1
   refine Calls.mono (spec_l6Row.at ⟨w.heap.size, 0, none⟩ _ c3 l3 key _ cX1_3 (by first | exact Kd.C_drewN (Kd.C_below HR3.out HB.out) _ | exact Kd.C_below HR3.out HB.out)) ?_
   rw [← HI.out]
   rintro e w' ⟨rfl, rfl⟩
   go_wp2_with fail
   refine (spec_l5Copy.calls A1 c1 Y.f1 c _ (by first | exact Kd.C_drewN HR1.out _ | exact HR1.out) HL1.out HCL2.out).mono ?_
   rintro e u4 ⟨v, rfl, hr, hb⟩
   clear cX1_0 cX1_1 cX1_2 cX1_3 lX1 nX1 cX2_0 fX2_0 cX2_1 fX2_1 lX2 nX2
   replace hb : Below u3.heap.size u3 u4 := below_step (pw_below_drewN (Below.refl _ _) _) hb
   have hsz := hb.size
   replace HB := Aside0.mk (show Below w.heap.size w u4 from below_step HB.out hb)
   replace X1 := Aside0.mk (keepB hb X1.out)
   replace X2 := Aside0.mk (keepB hb X2.out)
   have z4 := Aside0.mk hsz
   clear hsz
   obtain ⟨Av, cv, ev⟩ := Kd.R_slice hr
   subst ev
   have HV := Aside0.mk (show Kd.R k90 90 u4 w.heap.size (fun k_ => u3.heap.size ≤ k_) (.slice Av c.length cv) c from Kd.R_lower (Kd.R_mono (Kd.R_bound hr) (fun k_ h_ => h_.2.1)) (by have qz1_ := z1.out; have qz2_ := z2.out; have qz3_ := z3.out; have qz4_ := z4.out; show w.heap.size ≤ u3.heap.size; omega))
   clear hr hy1
   have cX2_0 : u4.cell? ⟨w.heap.size + 1, 0, none⟩ = some (.int .i64 0) := (blk_cell X2.out 0).trans rfl
   have fX2_0 : u4.frozen? ⟨w.heap.size + 1, 0, none⟩ = false := blk_frozen X2.out 0
   have cX2_1 : u4.cell? ⟨w.heap.size + 1, 1, none⟩ = some (.slice none 0 0) := (blk_cell X2.out 1).trans rfl
   have fX2_1 : u4.frozen? ⟨w.heap.size + 1, 1, none⟩ = false := blk_frozen X2.out 1
   have lX2 : w.heap.size + 1 < u4.heap.size := blk_lt X2.out
   have nX2 : w.heap.size + 1 ≠ u4.heap.size := Nat.ne_of_lt (blk_lt X2.out)
   go_wp2_with fail
   refine bodyPost_ret (results_cell_row rfl _ _ (w.heap.size + 1) 55 #[.int .i64 0, .slice Av c.length cv] (0, 0) _ rfl (by (with_reducible repeat (first | refine blk_drewN ?_ _ | refine blk_drew ?_ | refine blk_alloc ?_ _)); refine blk_put (cs := #[.int .i64 0, .slice none 0 0]) ?_ 1 _ rfl; (with_reducible repeat (first | refine blk_drewN ?_ _ | refine blk_drew ?_ | refine blk_alloc ?_ _)); refine blk_put (cs := #[.int .i64 0, .slice none 0 0]) ?_ 0 _ rfl; apply_rules [X2.out, blk_drewN, blk_drew, blk_alloc]) Try.underlying55 rfl (by kernel_rfl)) rfl ?_
   exact ⟨_, rfl, Kd.R_mono (Kd.R_far (p := ⟨w.heap.size + 1, 1, none⟩) (Kd.R_far (p := ⟨w.heap.size + 1, 0, none⟩) HV.out (fun k_ h_ => by have h2_ := h_; have qz1_ := z1.out; have qz2_ := z2.out; have qz3_ := z3.out; have qz4_ := z4.out; simp only; omega) _) (fun k_ h_ => by have h2_ := h_; have qz1_ := z1.out; have qz2_ := z2.out; have qz3_ := z3.out; have qz4_ := z4.out; simp only; omega) _) (fun _ _ => trivial), (by apply_rules [HB.out, below_alloc, pw_below_drewN, below_drew1, below_set, GEX2.out])⟩
  rw [if_neg (by rw [ck]; decide)] at h
  simp only [Option.some.injEq, Prod.mk.injEq] at h
  obtain ⟨rfl, rfl⟩ := h
  go_enter Try.func30, Try.ntmps30
  go_wp2_with fail
  have hb : Below w.heap.size w (w.alloc (Obj.cells #[.int .i64 a0_0, .int .i64 a0_1, .slice A2 l2.length c2, .slice A3 l3.length c3] 31)) := below_alloc (Below.refl _ _) _
  have hbx := blk_new w (Obj.cells #[.int .i64 a0_0, .int .i64 a0_1, .slice A2 l2.length c2, .slice A3 l3.length c3] 31)
  have hsz : w.heap.size + 1 = (w.alloc (Obj.cells #[.int .i64 a0_0, .int .i64 a0_1, .slice A2 l2.length c2, .slice A3 l3.length c3] 31)).heap.size := by simp
  replace HB := Aside0.mk (below_alloc HB.out (Obj.cells #[.int .i64 a0_0, .int .i64 a0_1, .slice A2 l2.length c2, .slice A3 l3.length c3] 31))
  have hbz := Aside0.mk hb
  have hbxz := Aside0.mk hbx
  have hszz := Aside0.mk hsz
  clear hb hbx hsz
  generalize w.alloc (Obj.cells #[.int .i64 a0_0, .int .i64 a0_1, .slice A2 l2.length c2, .slice A3 l3.length c3] 31) = u1 at HB hbz hbxz hszz ⊢
  have X1 := hbxz
  have z1 := hszz
  clear hbz hbxz hszz
  have hb : Below u1.heap.size u1 (u1.alloc (Obj.cells #[.int .i64 0, .slice none 0 0] 55)) := below_alloc (Below.refl _ _) _
  have hbx := blk_new u1 (Obj.cells #[.int .i64 0, .slice none 0 0] 55)
  have hsz : u1.heap.size + 1 = (u1.alloc (Obj.cells #[.int .i64 0, .slice none 0 0] 55)).heap.size := by simp
  replace HB := Aside0.mk (below_alloc HB.out (Obj.cells #[.int .i64 0, .slice none 0 0] 55))
  rw [← z1.out] at hbx
  replace X1 := Aside0.mk (keepB hb X1.out)
  have hbz := Aside0.mk hb
  have hbxz := Aside0.mk hbx
  have hszz := Aside0.mk hsz
  clear hb hbx hsz
  generalize u1.alloc (Obj.cells #[.int .i64 0, .slice none 0 0] 55) = u2 at HB hbz hbxz hszz X1 ⊢
  have X2 := hbxz
  have z2 := hszz
  clear hbz hbxz hszz
  have GEX2 := Aside0.mk (show w.heap.size ≤ w.heap.size + 1 from by have qz1_ := z1.out; have qz2_ := z2.out; omega)
  refine (spec_l6Fault.calls (g := w.heap.size) k a0_0 a0_1 A2 c2 l2 A3 c3 l3 flt _ (Kd.C_below HR2.out HB.out) HC2.out (Kd.C_below HR3.out HB.out) HC3.out HF.out X1).mono ?_
  rintro e u3 ⟨rfl, hb⟩
  have hsz := hb.size
  replace HB := Aside0.mk (show Below w.heap.size w u3 from below_step HB.out hb)
  replace X1 := Aside0.mk (keepB hb X1.out)
  replace X2 := Aside0.mk (keepB hb X2.out)
  have z3 := Aside0.mk hsz
  clear hsz
  have cX1_0 : u3.cell? ⟨w.heap.size, 0, none⟩ = some (.int .i64 a0_0) := (blk_cell X1.out 0).trans rfl
  have cX1_1 : u3.cell? ⟨w.heap.size, 1, none⟩ = some (.int .i64 a0_1) := (blk_cell X1.out 1).trans rfl
  have cX1_2 : u3.cell? ⟨w.heap.size, 2, none⟩ = some (.slice A2 l2.length c2) := (blk_cell X1.out 2).trans rfl
  have cX1_3 : u3.cell? ⟨w.heap.size, 3, none⟩ = some (.slice A3 l3.length c3) := (blk_cell X1.out 3).trans rfl
  have lX1 : w.heap.size < u3.heap.size := blk_lt X1.out
  have nX1 : w.heap.size ≠ u3.heap.size := Nat.ne_of_lt (blk_lt X1.out)
  have cX2_0 : u3.cell? ⟨w.heap.size + 1, 0, none⟩ = some (.int .i64 0) := (blk_cell X2.out 0).trans rfl
  have fX2_0 : u3.frozen? ⟨w.heap.size + 1, 0, none⟩ = false := blk_frozen X2.out 0
  have cX2_1 : u3.cell? ⟨w.heap.size + 1, 1, none⟩ = some (.slice none 0 0) := (blk_cell X2.out 1).trans rfl
  have fX2_1 : u3.frozen? ⟨w.heap.size + 1, 1, none⟩ = false := blk_frozen X2.out 1
  have lX2 : w.heap.size + 1 < u3.heap.size := blk_lt X2.out
  have nX2 : w.heap.size + 1 ≠ u3.heap.size := Nat.ne_of_lt (blk_lt X2.out)
  go_wp2_with (go_at_call 71; refine (cKey _ _).mono ?_; rintro e w' ⟨rfl, n, rfl⟩)
  refine bodyPost_ret (results_cell_row rfl _ _ (w.heap.size + 1) 55 #[.int .i64 3, .slice none 0 0] (0, 0) _ rfl (by (with_reducible repeat (first | refine blk_drewN ?_ _ | refine blk_drew ?_ | refine blk_alloc ?_ _)); refine blk_put (cs := #[.int .i64 3, .slice none 0 0]) ?_ 1 _ rfl; (with_reducible repeat (first | refine blk_drewN ?_ _ | refine blk_drew ?_ | refine blk_alloc ?_ _)); refine blk_put (cs := #[.int .i64 0, .slice none 0 0]) ?_ 0 _ rfl; apply_rules [X2.out, blk_drewN, blk_drew, blk_alloc]) Try.underlying55 rfl (by kernel_rfl)) rfl ?_
  exact ⟨_, rfl, Kd.R_nil _ _ _ _ _, (by apply_rules [HB.out, below_alloc, pw_below_drewN, below_drew1, below_set, GEX2.out])⟩
 rw [if_neg f0] at h
 simp only [Option.some.injEq, Prod.mk.injEq] at h
 obtain ⟨rfl, rfl⟩ := h
 have f1 : (flt == 0) = false := beq_eq_false_iff_ne.2 f0
 have f2 : (flt != 0) = true := bne_iff_ne.2 f0
 go_enter Try.func30, Try.ntmps30
 go_wp2_with fail
 have hb : Below w.heap.size w (w.alloc (Obj.cells #[.int .i64 a0_0, .int .i64 a0_1, .slice A2 l2.length c2, .slice A3 l3.length c3] 31)) := below_alloc (Below.refl _ _) _
 have hbx := blk_new w (Obj.cells #[.int .i64 a0_0, .int .i64 a0_1, .slice A2 l2.length c2, .slice A3 l3.length c3] 31)
 have hsz : w.heap.size + 1 = (w.alloc (Obj.cells #[.int .i64 a0_0, .int .i64 a0_1, .slice A2 l2.length c2, .slice A3 l3.length c3] 31)).heap.size := by simp
 replace HB := Aside0.mk (below_alloc HB.out (Obj.cells #[.int .i64 a0_0, .int .i64 a0_1, .slice A2 l2.length c2, .slice A3 l3.length c3] 31))
 have hbz := Aside0.mk hb
 have hbxz := Aside0.mk hbx
 have hszz := Aside0.mk hsz
 clear hb hbx hsz
 generalize w.alloc (Obj.cells #[.int .i64 a0_0, .int .i64 a0_1, .slice A2 l2.length c2, .slice A3 l3.length c3] 31) = u1 at HB hbz hbxz hszz ⊢
 have X1 := hbxz
 have z1 := hszz
 clear hbz hbxz hszz
 have hb : Below u1.heap.size u1 (u1.alloc (Obj.cells #[.int .i64 0, .slice none 0 0] 55)) := below_alloc (Below.refl _ _) _
 have hbx := blk_new u1 (Obj.cells #[.int .i64 0, .slice none 0 0] 55)
 have hsz : u1.heap.size + 1 = (u1.alloc (Obj.cells #[.int .i64 0, .slice none 0 0] 55)).heap.size := by simp
 replace HB := Aside0.mk (below_alloc HB.out (Obj.cells #[.int .i64 0, .slice none 0 0] 55))
 rw [← z1.out] at hbx
 replace X1 := Aside0.mk (keepB hb X1.out)
 have hbz := Aside0.mk hb
 have hbxz := Aside0.mk hbx
 have hszz := Aside0.mk hsz
 clear hb hbx hsz
 generalize u1.alloc (Obj.cells #[.int .i64 0, .slice none 0 0] 55) = u2 at HB hbz hbxz hszz X1 ⊢
 have X2 := hbxz
 have z2 := hszz
 clear hbz hbxz hszz
 have GEX2 := Aside0.mk (show w.heap.size ≤ w.heap.size + 1 from by have qz1_ := z1.out; have qz2_ := z2.out; omega)
 refine (spec_l6Fault.calls (g := w.heap.size) k a0_0 a0_1 A2 c2 l2 A3 c3 l3 flt _ (Kd.C_below HR2.out HB.out) HC2.out (Kd.C_below HR3.out HB.out) HC3.out HF.out X1).mono ?_
 rintro e u3 ⟨rfl, hb⟩
 have hsz := hb.size
 replace HB := Aside0.mk (show Below w.heap.size w u3 from below_step HB.out hb)
 replace X1 := Aside0.mk (keepB hb X1.out)
 replace X2 := Aside0.mk (keepB hb X2.out)
 have z3 := Aside0.mk hsz
 clear hsz
 have cX1_0 : u3.cell? ⟨w.heap.size, 0, none⟩ = some (.int .i64 a0_0) := (blk_cell X1.out 0).trans rfl
 have cX1_1 : u3.cell? ⟨w.heap.size, 1, none⟩ = some (.int .i64 a0_1) := (blk_cell X1.out 1).trans rfl
 have cX1_2 : u3.cell? ⟨w.heap.size, 2, none⟩ = some (.slice A2 l2.length c2) := (blk_cell X1.out 2).trans rfl
 have cX1_3 : u3.cell? ⟨w.heap.size, 3, none⟩ = some (.slice A3 l3.length c3) := (blk_cell X1.out 3).trans rfl
 have lX1 : w.heap.size < u3.heap.size := blk_lt X1.out
 have nX1 : w.heap.size ≠ u3.heap.size := Nat.ne_of_lt (blk_lt X1.out)
 have cX2_0 : u3.cell? ⟨w.heap.size + 1, 0, none⟩ = some (.int .i64 0) := (blk_cell X2.out 0).trans rfl
 have fX2_0 : u3.frozen? ⟨w.heap.size + 1, 0, none⟩ = false := blk_frozen X2.out 0
 have cX2_1 : u3.cell? ⟨w.heap.size + 1, 1, none⟩ = some (.slice none 0 0) := (blk_cell X2.out 1).trans rfl
 have fX2_1 : u3.frozen? ⟨w.heap.size + 1, 1, none⟩ = false := blk_frozen X2.out 1
 have lX2 : w.heap.size + 1 < u3.heap.size := blk_lt X2.out
 have nX2 : w.heap.size + 1 ≠ u3.heap.size := Nat.ne_of_lt (blk_lt X2.out)
 go_wp2_with fail
 refine bodyPost_ret (results_cell_row rfl _ _ (w.heap.size + 1) 55 #[.int .i64 flt, .slice none 0 0] (0, 0) _ rfl (by (with_reducible repeat (first | refine blk_drewN ?_ _ | refine blk_drew ?_ | refine blk_alloc ?_ _)); refine blk_put (cs := #[.int .i64 flt, .slice none 0 0]) ?_ 1 _ rfl; (with_reducible repeat (first | refine blk_drewN ?_ _ | refine blk_drew ?_ | refine blk_alloc ?_ _)); refine blk_put (cs := #[.int .i64 0, .slice none 0 0]) ?_ 0 _ rfl; apply_rules [X2.out, blk_drewN, blk_drew, blk_alloc]) Try.underlying55 rfl (by kernel_rfl)) rfl ?_
 exact ⟨_, rfl, Kd.R_nil _ _ _ _ _, (by apply_rules [HB.out, below_alloc, pw_below_drewN, below_drew1, below_set, GEX2.out])⟩
-- PROOF --
set_option maxHeartbeats 8000000 in
set_option maxRecDepth 100000 in
theorem slices_Clone_impl_Version.calls (A0 : Option Addr) (c0 : Nat) (l0 : List (S90)) (r : List (S90)) (w : World) (hr0 : Kd.C k90 w A0 l0.length l0) (hc0 : l0.length ≤ c0) (h : slices_Clone_impl_Version.f l0 = some r) :
 Calls Try.prog 87 #[.slice A0 l0.length c0] w fun e w' => ∃ v0_ : Value, e = .returned (v0_) ∧ Kd.R k90 90 w' w.heap.size (fun _ => True) v0_ r ∧ Below w.heap.size w w' := by
 have q22 : ∀ (w : World) (a : Option Addr) (n c n' c' : Nat), (binOp .eql 53 (.slice a n c) (.slice none n' c')).run Try.prog w = .ok (.bool a.isNone) w := fun w a n c n' c' => Lib.run_eql_slice_nil w _ _ a n c n' c' Try.underlying53
 rcases A0 with _ | ad0
 ·have hl : l0 = [] := by
   rcases Nat.eq_zero_or_pos l0.length with h0 | h0
   ·exact List.eq_nil_of_length_eq_zero h0
   obtain ⟨ad, e, _⟩ := hr0.2.2 h0
   cases e
  subst hl
  have hr : r = [] := by
   simp [slices_Clone_impl_Version.f] at h
   first | exact h.symm | exact h
  subst hr
  go_enter Try.func87, Try.ntmps87
  go_wp2
  go_ret
  exact ⟨_, rfl, Kd.R_nil _ _ _ _ _, Below.refl _ _⟩
 have HR0 := Aside0.mk hr0
 have HC0 := Aside0.mk hc0
 clear hr0 hc0
 have HB := Aside0.mk (Below.refl w.heap.size w)
 have H : ((some (([] : List (S90)) : List (S90))).bind fun y7 => (if y7.length + l0.length < 4398046511104 then (some (y7 ++ l0)) else (none))) = some r := h
 clear h
 obtain ⟨y7, hy7⟩ : ∃ y_ : List (S90), y_ = (([] : List (S90))) := ⟨_, rfl⟩
 replace H : (if y7.length + l0.length < 4398046511104 then (some (y7 ++ l0)) else (none)) = some r := by first | (rw [hy7]; with_reducible exact H) | (have H2_ := (Option.bind_some _ _).symm.trans H; rw [hy7]; with_reducible exact H2_) | (have H2_ := (Option.bind_some _ _).symm.trans H; with_reducible exact H2_) | with_reducible exact H | (rw [hy7]; exact H) | exact H
 have Ny7 := Aside0.mk hy7
 clear hy7
 by_cases c2 : y7.length + l0.length < 4398046511104
 ·rw [if_pos c2] at H
  have LMc2 := Aside0.mk c2
  clear c2
  obtain ⟨y8, hy8⟩ : ∃ y_ : List (S90), y_ = (y7 ++ l0) := ⟨_, rfl⟩
  replace H : (some y8) = some r := by first | (rw [hy8]; with_reducible exact H) | (have H2_ := (Option.bind_some _ _).symm.trans H; rw [hy8]; with_reducible exact H2_) | (have H2_ := (Option.bind_some _ _).symm.trans H; with_reducible exact H2_) | with_reducible exact H | (rw [hy8]; exact H) | exact H
  have Ny8 := Aside0.mk hy8
  clear hy8
  obtain rfl := Option.some.inj H
  go_enter Try.func87, Try.ntmps87
  go_wp2_with (first | ((with_reducible refine gate_dst (N := 5) rfl ?_); refine Kd.R_lit k90 _ 90 ?hg (N := 5) ?hd (xs := ([] : List (S90))) (inner := []) (ok := fun _ => True) (okp := fun _ => True) ?hr ?hp (fun _ hk => hk) trivial (Below.refl _ _) (Nat.le_refl _) (by simp) ?_; (case hd => rfl); (case hg => rfl); (case hr => first | (go_simp; done) | (go_simp; rfl)); (case hp => exact (Reps.none _ _)); intro v10 w3 ho4 hb hg_ hnew_; clear hg_ hnew_; (first | rw [← Ny7.out] at ho4 | (simp only [Int.reduceToNat] at ho4; rw [← Ny7.out] at ho4)); have n0_ := Aside0.mk (Kd.R_lower ho4 (below_size (by apply_rules [HB.out, below_alloc, pw_below_drewN, below_drew1]))); have n1_ := Aside0.mk (below_step (by apply_rules [HB.out, below_alloc, pw_below_drewN, below_drew1]) hb); clear HB; have HO9 := n0_; have HB := n1_; clear n0_ n1_; clear hb ho4) | ((with_reducible refine gate_builtin (b := .append) (xs := #[.tmp 5, .tmp 6]) rfl ?_); at_builtin; refine Kd.R_append_rows k90 (w0 := w) w.heap.size rfl (.tmp 5) (.tmp 6) 53 90 (.agg #[(.int .i64 0), (.int .i64 0), (.bool false), (.int .i64 0)]) 32 rfl Try.underlying53 info90 rfl (by decide) (by omega) v10 y7 l0 _ _ _ (fun _ => True) (fun _ => False) rfl rfl ?aO ?aR (fun _ _ h => h) (fun _ h => h.elim) ?aF ?aB ?aS ?aL ?_; (case aR => repeat (first | exact (Kd.C_below HR0.out HB.out) | (with_reducible first | refine Kd.C_alloc ?_ _ | refine Kd.C_drewN ?_ _ | refine Kd.C_drew ?_))); (case aB => exact (by apply_rules [HB.out, below_alloc, pw_below_drewN, below_drew1])); (case aF => exact (fun _ _ => trivial)); (case aO => exact (by (with_reducible repeat (first | apply Kd.R_alloc | apply Kd.R_drewN | apply Kd.R_drew)); exact HO9.out)); (case aS => exact (below_size (by apply_rules [HB.out, below_alloc, pw_below_drewN, below_drew1]))); (case aL => have := LMc2.out; omega); intro v12 w5 ho hb hg hat; rw [← Ny8.out] at ho; have n0_ := Aside0.mk (hb); have n1_ := Aside0.mk (ho); clear HB; clear HO9; have HB := n0_; have HO11 := n1_; clear n0_ n1_; clear ho hb hg hat))
  go_ret
  exact ⟨_, by first | rfl | (simp [errW_none, errW_some] <;> rfl) | (simp [*, errW_none, errW_some] <;> rfl), by (with_reducible repeat (first | apply Kd.R_alloc | apply Kd.R_drewN | apply Kd.R_drew)); exact HO11.out, by apply_rules [HB.out, below_alloc, pw_below_drewN, below_drew1]⟩
 rw [if_neg c2] at H
 exact absurd H (by simp)
-- PROOF --
set_option maxHeartbeats 8000000 in
set_option maxRecDepth 100000 in
theorem impl_HistoryOf.calls (k : Nat) (a0_0 a0_1 : Int) (A2 : Option Addr) (c2 : Nat) (l2 : List S83) (A3 : Option Addr) (c3 : Nat) (l3 : List S87) (key r1 : Int) (r2 : List S90) (w : World) (hr2 : Kd.C k83 w A2 l2.length l2) (hc2 : l2.length ≤ c2) (hr3 : Kd.C k87 w A3 l3.length l3) (hc3 : l3.length ≤ c3) (h : impl_HistoryOf.f k a0_0 a0_1 l2 l3 key = some (r1, r2)) :
 Calls Try.prog 31 #[.agg #[.int .i64 a0_0, .int .i64 a0_1, .slice A2 l2.length c2, .slice A3 l3.length c3], .int .i64 key] w fun e w' => ∃ v1_ : Value, e = .returned (.agg #[.int .i64 r1, v1_]) ∧ Kd.R k90 90 w' w.heap.size (fun _ => True) v1_ r2 ∧ Below w.heap.size w w' := by
 have hu31 := Try.underlying31
 have hu55 := Try.underlying55
 have HB := Aside0.mk (Below.refl w.heap.size w)
 have HR2 := Aside0.mk hr2
 have HR3 := Aside0.mk hr3
 have HC2 := Aside0.mk hc2
 have HC3 := Aside0.mk hc3
 have hn2 := hr2.2.1
 have hn3 := hr3.2.1
 clear hr2 hr3 hc2 hc3
 unfold impl_HistoryOf.f at h
 obtain ⟨flt, hf, h⟩ := Option.bind_eq_some_iff.mp h
 have HF := Aside0.mk hf
 clear hf
 by_cases f0 : flt = 0
 ·rw [if_pos f0] at h
  have f1 : (flt == 0) = true := beq_iff_eq.2 f0
  have f2 : (flt != 0) = false := bne_eq_false_iff_eq.2 f0
  have F0 := Aside0.mk f0
  rcases hb_ (inB key 0 31) with ck | ck
  ·rw [if_pos ck] at h
   obtain ⟨c, hcl, h⟩ := Option.bind_eq_some_iff.mp h
   simp only [Option.some.injEq, Prod.mk.injEq] at h
   obtain ⟨rfl, rfl⟩ := h
   have HCL := Aside0.mk hcl
   clear hcl
   go_enter Try.func31, Try.ntmps31
   go_wp2_with fail
   have hb : Below w.heap.size w (w.alloc (Obj.cells #[.int .i64 a0_0, .int .i64 a0_1, .slice A2 l2.length c2, .slice A3 l3.length c3] 31)) := below_alloc (Below.refl _ _) _
   have hbx := blk_new w (Obj.cells #[.int .i64 a0_0, .int .i64 a0_1, .slice A2 l2.length c2, .slice A3 l3.length c3] 31)
   have hsz : w.heap.size + 1 = (w.alloc (Obj.cells #[.int .i64 a0_0, .int .i64 a0_1, .slice A2 l2.length c2, .slice A3 l3.length c3] 31)).heap.size := by simp
   replace HB := Aside0.mk (below_alloc HB.out (Obj.cells #[.int .i64 a0_0, .int .i64 a0_1, .slice A2 l2.length c2, .slice A3 l3.length c3] 31))
   have hbz := Aside0.mk hb
   have hbxz := Aside0.mk hbx
   have hszz := Aside0.mk hsz
   clear hb hbx hsz
   generalize w.alloc (Obj.cells #[.int .i64 a0_0, .int .i64 a0_1, .slice A2 l2.length c2, .slice A3 l3.length c3] 31) = u1 at HB hbz hbxz hszz ⊢
   have X1 := hbxz
   have z1 := hszz
   clear hbz hbxz hszz
   have hb : Below u1.heap.size u1 (u1.alloc (Obj.cells #[.int .i64 0, .slice none 0 0] 55)) := below_alloc (Below.refl _ _) _
   have hbx := blk_new u1 (Obj.cells #[.int .i64 0, .slice none 0 0] 55)
   have hsz : u1.heap.size + 1 = (u1.alloc (Obj.cells #[.int .i64 0, .slice none 0 0] 55)).heap.size := by simp
   replace HB := Aside0.mk (below_alloc HB.out (Obj.cells #[.int .i64 0, .slice none 0 0] 55))
   rw [← z1.out] at hbx
   replace X1 := Aside0.mk (keepB hb X1.out)
   have hbz := Aside0.mk hb
   have hbxz := Aside0.mk hbx
   have hszz := Aside0.mk hsz
   clear hb hbx hsz
   generalize u1.alloc (Obj.cells #[.int .i64 0, .slice none 0 0] 55) = u2 at HB hbz hbxz hszz X1 ⊢
   have X2 := hbxz
   have z2 := hszz
   clear hbz hbxz hszz
   have GEX2 := Aside0.mk (show w.heap.size ≤ w.heap.size + 1 from by have qz1_ := z1.out; have qz2_ := z2.out; omega)
   refine (impl_EngineFault.calls k a0_0 a0_1 A2 c2 l2 A3 c3 l3 flt _ (Kd.C_below HR2.out HB.out) HC2.out (Kd.C_below HR3.out HB.out) HC3.out HF.out).mono ?_
   rintro e u3 ⟨rfl, hb⟩
   have hsz := hb.size
   replace HB := Aside0.mk (show Below w.heap.size w u3 from below_step HB.out hb)
   replace X1 := Aside0.mk (keepB hb X1.out)
   replace X2 := Aside0.mk (keepB hb X2.out)
   have z3 := Aside0.mk hsz
   clear hsz
   have cX1_0 : u3.cell? ⟨w.heap.size, 0, none⟩ = some (.int .i64 a0_0) := (blk_cell X1.out 0).trans rfl
   have cX1_1 : u3.cell? ⟨w.heap.size, 1, none⟩ = some (.int .i64 a0_1) := (blk_cell X1.out 1).trans rfl
   have cX1_2 : u3.cell? ⟨w.heap.size, 2, none⟩ = some (.slice A2 l2.length c2) := (blk_cell X1.out 2).trans rfl
   have cX1_3 : u3.cell? ⟨w.heap.size, 3, none⟩ = some (.slice A3 l3.length c3) := (blk_cell X1.out 3).trans rfl
   have lX1 : w.heap.size < u3.heap.size := blk_lt X1.out
   have nX1 : w.heap.size ≠ u3.heap.size := Nat.ne_of_lt (blk_lt X1.out)
   have cX2_0 : u3.cell? ⟨w.heap.size + 1, 0, none⟩ = some (.int .i64 0) := (blk_cell X2.out 0).trans rfl
   have fX2_0 : u3.frozen? ⟨w.heap.size + 1, 0, none⟩ = false := blk_frozen X2.out 0
   have cX2_1 : u3.cell? ⟨w.heap.size + 1, 1, none⟩ = some (.slice none 0 0) := (blk_cell X2.out 1).trans rfl
   have fX2_1 : u3.frozen? ⟨w.heap.size + 1, 1, none⟩ = false := blk_frozen X2.out 1
   have lX2 : w.heap.size + 1 < u3.heap.size := blk_lt X2.out
   have nX2 : w.heap.size + 1 ≠ u3.heap.size := Nat.ne_of_lt (blk_lt X2.out)
   go_wp2_with (go_at_call 57; refine (cKy _ _).mono ?_; rintro e w' ⟨rfl, n, rfl⟩)
   refine ((impl_Engine_chain.at a0_0 a0_1 A2 c2 l2 A3 c3 l3 key _ (by first | exact Kd.C_drewN (Kd.C_below HR3.out HB.out) _ | exact Kd.C_below HR3.out HB.out))).mono ?_
   rintro e u4 ⟨AC, cC, rfl, hcl, hcr, hb⟩
   clear cX1_0 cX1_1 cX1_2 cX1_3 lX1 nX1 cX2_0 fX2_0 cX2_1 fX2_1 lX2 nX2
   replace hb : Below u3.heap.size u3 u4 := below_step (pw_below_drewN (Below.refl _ _) _) hb
   have hsz := hb.size
   replace HB := Aside0.mk (show Below w.heap.size w u4 from below_step HB.out hb)
   replace X1 := Aside0.mk (keepB hb X1.out)
   replace X2 := Aside0.mk (keepB hb X2.out)
   have z4 := Aside0.mk hsz
   clear hsz
   have HCR := Aside0.mk hcr
   have HCC := Aside0.mk hcl
   clear hcr hcl
   go_wp2_with fail
   refine (slices_Clone_impl_Version.calls AC cC (chainF l3 key) c _ HCR.out HCC.out HCL.out).mono ?_
   rintro e u5 ⟨v, rfl, hr, hb⟩
   have hsz := hb.size
   replace HB := Aside0.mk (show Below w.heap.size w u5 from below_step HB.out hb)
   replace X1 := Aside0.mk (keepB hb X1.out)
   replace X2 := Aside0.mk (keepB hb X2.out)
   have z5 := Aside0.mk hsz
   clear hsz
   obtain ⟨Av, cv, ev⟩ := Kd.R_slice hr
   subst ev
   have HV := Aside0.mk (show Kd.R k90 90 u5 w.heap.size (fun k_ => u4.heap.size ≤ k_) (.slice Av c.length cv) c from Kd.R_lower (Kd.R_mono (Kd.R_bound hr) (fun k_ h_ => h_.2.1)) (by have qz1_ := z1.out; have qz2_ := z2.out; have qz3_ := z3.out; have qz4_ := z4.out; have qz5_ := z5.out; omega))
   clear hr
   have cX2_0 : u5.cell? ⟨w.heap.size + 1, 0, none⟩ = some (.int .i64 0) := (blk_cell X2.out 0).trans rfl
   have fX2_0 : u5.frozen? ⟨w.heap.size + 1, 0, none⟩ = false := blk_frozen X2.out 0
   have cX2_1 : u5.cell? ⟨w.heap.size + 1, 1, none⟩ = some (.slice none 0 0) := (blk_cell X2.out 1).trans rfl
   have fX2_1 : u5.frozen? ⟨w.heap.size + 1, 1, none⟩ = false := blk_frozen X2.out 1
   have lX2 : w.heap.size + 1 < u5.heap.size := blk_lt X2.out
   have nX2 : w.heap.size + 1 ≠ u5.heap.size := Nat.ne_of_lt (blk_lt X2.out)
   go_wp2_with fail
   refine bodyPost_ret (results_cell_row rfl _ _ (w.heap.size + 1) 55 #[.int .i64 0, .slice Av c.length cv] (0, 0) _ rfl (by (with_reducible repeat (first | refine blk_drewN ?_ _ | refine blk_drew ?_ | refine blk_alloc ?_ _)); refine blk_put (cs := #[.int .i64 0, .slice none 0 0]) ?_ 1 _ rfl; (with_reducible repeat (first | refine blk_drewN ?_ _ | refine blk_drew ?_ | refine blk_alloc ?_ _)); refine blk_put (cs := #[.int .i64 0, .slice none 0 0]) ?_ 0 _ rfl; apply_rules [X2.out, blk_drewN, blk_drew, blk_alloc]) Try.underlying55 rfl (by kernel_rfl)) rfl ?_
   exact ⟨_, rfl, Kd.R_mono (Kd.R_far (p := ⟨w.heap.size + 1, 1, none⟩) (Kd.R_far (p := ⟨w.heap.size + 1, 0, none⟩) HV.out (fun k_ h_ => by have h2_ := h_; have qz1_ := z1.out; have qz2_ := z2.out; have qz3_ := z3.out; have qz4_ := z4.out; have qz5_ := z5.out; simp only; omega) _) (fun k_ h_ => by have h2_ := h_; have qz1_ := z1.out; have qz2_ := z2.out; have qz3_ := z3.out; have qz4_ := z4.out; have qz5_ := z5.out; simp only; omega) _) (fun _ _ => trivial), (by apply_rules [HB.out, below_alloc, pw_below_drewN, below_drew1, below_set, GEX2.out])⟩
  rw [if_neg (by rw [ck]; decide)] at h
  simp only [Option.some.injEq, Prod.mk.injEq] at h
  obtain ⟨rfl, rfl⟩ := h
  go_enter Try.func31, Try.ntmps31
  go_wp2_with fail
  have hb : Below w.heap.size w (w.alloc (Obj.cells #[.int .i64 a0_0, .int .i64 a0_1, .slice A2 l2.length c2, .slice A3 l3.length c3] 31)) := below_alloc (Below.refl _ _) _
  have hbx := blk_new w (Obj.cells #[.int .i64 a0_0, .int .i64 a0_1, .slice A2 l2.length c2, .slice A3 l3.length c3] 31)
  have hsz : w.heap.size + 1 = (w.alloc (Obj.cells #[.int .i64 a0_0, .int .i64 a0_1, .slice A2 l2.length c2, .slice A3 l3.length c3] 31)).heap.size := by simp
  replace HB := Aside0.mk (below_alloc HB.out (Obj.cells #[.int .i64 a0_0, .int .i64 a0_1, .slice A2 l2.length c2, .slice A3 l3.length c3] 31))
  have hbz := Aside0.mk hb
  have hbxz := Aside0.mk hbx
  have hszz := Aside0.mk hsz
  clear hb hbx hsz
  generalize w.alloc (Obj.cells #[.int .i64 a0_0, .int .i64 a0_1, .slice A2 l2.length c2, .slice A3 l3.length c3] 31) = u1 at HB hbz hbxz hszz ⊢
  have X1 := hbxz
  have z1 := hszz
  clear hbz hbxz hszz
  have hb : Below u1.heap.size u1 (u1.alloc (Obj.cells #[.int .i64 0, .slice none 0 0] 55)) := below_alloc (Below.refl _ _) _
  have hbx := blk_new u1 (Obj.cells #[.int .i64 0, .slice none 0 0] 55)
  have hsz : u1.heap.size + 1 = (u1.alloc (Obj.cells #[.int .i64 0, .slice none 0 0] 55)).heap.size := by simp
  replace HB := Aside0.mk (below_alloc HB.out (Obj.cells #[.int .i64 0, .slice none 0 0] 55))
  rw [← z1.out] at hbx
  replace X1 := Aside0.mk (keepB hb X1.out)
  have hbz := Aside0.mk hb
  have hbxz := Aside0.mk hbx
  have hszz := Aside0.mk hsz
  clear hb hbx hsz
  generalize u1.alloc (Obj.cells #[.int .i64 0, .slice none 0 0] 55) = u2 at HB hbz hbxz hszz X1 ⊢
  have X2 := hbxz
  have z2 := hszz
  clear hbz hbxz hszz
  have GEX2 := Aside0.mk (show w.heap.size ≤ w.heap.size + 1 from by have qz1_ := z1.out; have qz2_ := z2.out; omega)
  refine (impl_EngineFault.calls k a0_0 a0_1 A2 c2 l2 A3 c3 l3 flt _ (Kd.C_below HR2.out HB.out) HC2.out (Kd.C_below HR3.out HB.out) HC3.out HF.out).mono ?_
  rintro e u3 ⟨rfl, hb⟩
  have hsz := hb.size
  replace HB := Aside0.mk (show Below w.heap.size w u3 from below_step HB.out hb)
  replace X1 := Aside0.mk (keepB hb X1.out)
  replace X2 := Aside0.mk (keepB hb X2.out)
  have z3 := Aside0.mk hsz
  clear hsz
  have cX1_0 : u3.cell? ⟨w.heap.size, 0, none⟩ = some (.int .i64 a0_0) := (blk_cell X1.out 0).trans rfl
  have cX1_1 : u3.cell? ⟨w.heap.size, 1, none⟩ = some (.int .i64 a0_1) := (blk_cell X1.out 1).trans rfl
  have cX1_2 : u3.cell? ⟨w.heap.size, 2, none⟩ = some (.slice A2 l2.length c2) := (blk_cell X1.out 2).trans rfl
  have cX1_3 : u3.cell? ⟨w.heap.size, 3, none⟩ = some (.slice A3 l3.length c3) := (blk_cell X1.out 3).trans rfl
  have lX1 : w.heap.size < u3.heap.size := blk_lt X1.out
  have nX1 : w.heap.size ≠ u3.heap.size := Nat.ne_of_lt (blk_lt X1.out)
  have cX2_0 : u3.cell? ⟨w.heap.size + 1, 0, none⟩ = some (.int .i64 0) := (blk_cell X2.out 0).trans rfl
  have fX2_0 : u3.frozen? ⟨w.heap.size + 1, 0, none⟩ = false := blk_frozen X2.out 0
  have cX2_1 : u3.cell? ⟨w.heap.size + 1, 1, none⟩ = some (.slice none 0 0) := (blk_cell X2.out 1).trans rfl
  have fX2_1 : u3.frozen? ⟨w.heap.size + 1, 1, none⟩ = false := blk_frozen X2.out 1
  have lX2 : w.heap.size + 1 < u3.heap.size := blk_lt X2.out
  have nX2 : w.heap.size + 1 ≠ u3.heap.size := Nat.ne_of_lt (blk_lt X2.out)
  go_wp2_with (go_at_call 57; refine (cKy _ _).mono ?_; rintro e w' ⟨rfl, n, rfl⟩)
  refine bodyPost_ret (results_cell_row rfl _ _ (w.heap.size + 1) 55 #[.int .i64 3, .slice none 0 0] (0, 0) _ rfl (by (with_reducible repeat (first | refine blk_drewN ?_ _ | refine blk_drew ?_ | refine blk_alloc ?_ _)); refine blk_put (cs := #[.int .i64 3, .slice none 0 0]) ?_ 1 _ rfl; (with_reducible repeat (first | refine blk_drewN ?_ _ | refine blk_drew ?_ | refine blk_alloc ?_ _)); refine blk_put (cs := #[.int .i64 0, .slice none 0 0]) ?_ 0 _ rfl; apply_rules [X2.out, blk_drewN, blk_drew, blk_alloc]) Try.underlying55 rfl (by kernel_rfl)) rfl ?_
  exact ⟨_, rfl, Kd.R_nil _ _ _ _ _, (by apply_rules [HB.out, below_alloc, pw_below_drewN, below_drew1, below_set, GEX2.out])⟩
 rw [if_neg f0] at h
 simp only [Option.some.injEq, Prod.mk.injEq] at h
 obtain ⟨rfl, rfl⟩ := h
 have f1 : (flt == 0) = false := beq_eq_false_iff_ne.2 f0
 have f2 : (flt != 0) = true := bne_iff_ne.2 f0
 go_enter Try.func31, Try.ntmps31
 go_wp2_with fail
 have hb : Below w.heap.size w (w.alloc (Obj.cells #[.int .i64 a0_0, .int .i64 a0_1, .slice A2 l2.length c2, .slice A3 l3.length c3] 31)) := below_alloc (Below.refl _ _) _
 have hbx := blk_new w (Obj.cells #[.int .i64 a0_0, .int .i64 a0_1, .slice A2 l2.length c2, .slice A3 l3.length c3] 31)
 have hsz : w.heap.size + 1 = (w.alloc (Obj.cells #[.int .i64 a0_0, .int .i64 a0_1, .slice A2 l2.length c2, .slice A3 l3.length c3] 31)).heap.size := by simp
 replace HB := Aside0.mk (below_alloc HB.out (Obj.cells #[.int .i64 a0_0, .int .i64 a0_1, .slice A2 l2.length c2, .slice A3 l3.length c3] 31))
 have hbz := Aside0.mk hb
 have hbxz := Aside0.mk hbx
 have hszz := Aside0.mk hsz
 clear hb hbx hsz
 generalize w.alloc (Obj.cells #[.int .i64 a0_0, .int .i64 a0_1, .slice A2 l2.length c2, .slice A3 l3.length c3] 31) = u1 at HB hbz hbxz hszz ⊢
 have X1 := hbxz
 have z1 := hszz
 clear hbz hbxz hszz
 have hb : Below u1.heap.size u1 (u1.alloc (Obj.cells #[.int .i64 0, .slice none 0 0] 55)) := below_alloc (Below.refl _ _) _
 have hbx := blk_new u1 (Obj.cells #[.int .i64 0, .slice none 0 0] 55)
 have hsz : u1.heap.size + 1 = (u1.alloc (Obj.cells #[.int .i64 0, .slice none 0 0] 55)).heap.size := by simp
 replace HB := Aside0.mk (below_alloc HB.out (Obj.cells #[.int .i64 0, .slice none 0 0] 55))
 rw [← z1.out] at hbx
 replace X1 := Aside0.mk (keepB hb X1.out)
 have hbz := Aside0.mk hb
 have hbxz := Aside0.mk hbx
 have hszz := Aside0.mk hsz
 clear hb hbx hsz
 generalize u1.alloc (Obj.cells #[.int .i64 0, .slice none 0 0] 55) = u2 at HB hbz hbxz hszz X1 ⊢
 have X2 := hbxz
 have z2 := hszz
 clear hbz hbxz hszz
 have GEX2 := Aside0.mk (show w.heap.size ≤ w.heap.size + 1 from by have qz1_ := z1.out; have qz2_ := z2.out; omega)
 refine (impl_EngineFault.calls k a0_0 a0_1 A2 c2 l2 A3 c3 l3 flt _ (Kd.C_below HR2.out HB.out) HC2.out (Kd.C_below HR3.out HB.out) HC3.out HF.out).mono ?_
 rintro e u3 ⟨rfl, hb⟩
 have hsz := hb.size
 replace HB := Aside0.mk (show Below w.heap.size w u3 from below_step HB.out hb)
 replace X1 := Aside0.mk (keepB hb X1.out)
 replace X2 := Aside0.mk (keepB hb X2.out)
 have z3 := Aside0.mk hsz
 clear hsz
 have cX1_0 : u3.cell? ⟨w.heap.size, 0, none⟩ = some (.int .i64 a0_0) := (blk_cell X1.out 0).trans rfl
 have cX1_1 : u3.cell? ⟨w.heap.size, 1, none⟩ = some (.int .i64 a0_1) := (blk_cell X1.out 1).trans rfl
 have cX1_2 : u3.cell? ⟨w.heap.size, 2, none⟩ = some (.slice A2 l2.length c2) := (blk_cell X1.out 2).trans rfl
 have cX1_3 : u3.cell? ⟨w.heap.size, 3, none⟩ = some (.slice A3 l3.length c3) := (blk_cell X1.out 3).trans rfl
 have lX1 : w.heap.size < u3.heap.size := blk_lt X1.out
 have nX1 : w.heap.size ≠ u3.heap.size := Nat.ne_of_lt (blk_lt X1.out)
 have cX2_0 : u3.cell? ⟨w.heap.size + 1, 0, none⟩ = some (.int .i64 0) := (blk_cell X2.out 0).trans rfl
 have fX2_0 : u3.frozen? ⟨w.heap.size + 1, 0, none⟩ = false := blk_frozen X2.out 0
 have cX2_1 : u3.cell? ⟨w.heap.size + 1, 1, none⟩ = some (.slice none 0 0) := (blk_cell X2.out 1).trans rfl
 have fX2_1 : u3.frozen? ⟨w.heap.size + 1, 1, none⟩ = false := blk_frozen X2.out 1
 have lX2 : w.heap.size + 1 < u3.heap.size := blk_lt X2.out
 have nX2 : w.heap.size + 1 ≠ u3.heap.size := Nat.ne_of_lt (blk_lt X2.out)
 go_wp2_with fail
 refine bodyPost_ret (results_cell_row rfl _ _ (w.heap.size + 1) 55 #[.int .i64 flt, .slice none 0 0] (0, 0) _ rfl (by (with_reducible repeat (first | refine blk_drewN ?_ _ | refine blk_drew ?_ | refine blk_alloc ?_ _)); refine blk_put (cs := #[.int .i64 flt, .slice none 0 0]) ?_ 1 _ rfl; (with_reducible repeat (first | refine blk_drewN ?_ _ | refine blk_drew ?_ | refine blk_alloc ?_ _)); refine blk_put (cs := #[.int .i64 0, .slice none 0 0]) ?_ 0 _ rfl; apply_rules [X2.out, blk_drewN, blk_drew, blk_alloc]) Try.underlying55 rfl (by kernel_rfl)) rfl ?_
 exact ⟨_, rfl, Kd.R_nil _ _ _ _ _, (by apply_rules [HB.out, below_alloc, pw_below_drewN, below_drew1, below_set, GEX2.out])⟩
set_option maxHeartbeats 8000000 in
set_option maxRecDepth 100000 in
theorem laws_eqChainResult.calls (k : Nat) (a0_0 : Int) (A0_1 : Option Addr) (c0_1 : Nat) (l0_1 : List (S90)) (a1_0 : Int) (A1_1 : Option Addr) (c1_1 : Nat) (l1_1 : List (S90)) (r : Bool) (w : World) (hr0_1 : Kd.C k90 w A0_1 l0_1.length l0_1) (hc0_1 : l0_1.length ≤ c0_1) (hr1_1 : Kd.C k90 w A1_1 l1_1.length l1_1) (hc1_1 : l1_1.length ≤ c1_1) (h : laws_eqChainResult.f k a0_0 l0_1 a1_0 l1_1 = some r) :
 Calls Try.prog 32 #[.agg #[.int .i64 a0_0, .slice A0_1 l0_1.length c0_1], .agg #[.int .i64 a1_0, .slice A1_1 l1_1.length c1_1]] w fun e w' => e = .returned (.bool r) ∧ Below w.heap.size w w' := by
 have hu55 := Try.underlying55
 have HR0_1 := Aside0.mk hr0_1
 have HC0_1 := Aside0.mk hc0_1
 clear hr0_1 hc0_1
 have HR1_1 := Aside0.mk hr1_1
 have HC1_1 := Aside0.mk hc1_1
 clear hr1_1 hc1_1
 have HB := Aside0.mk (Below.refl w.heap.size w)
 have H : (if a0_0 = a1_0 then ((laws_eqVersionS.f k l0_1 l1_1).bind fun t25 => (if t25 = true then (some true) else (some false))) else (some false)) = some r := h
 clear h
 by_cases c3 : a0_0 = a1_0
 ·rw [if_pos c3] at H
  have c3b0 : (a0_0 == a1_0) = true := beq_iff_eq.mpr c3
  have c3b1 : (a0_0 != a1_0) = false := bne_eq_false_iff_eq.mpr c3
  clear c3
  replace H := Option.bind_eq_some_iff.mp H
  obtain ⟨t25, A40, H⟩ := H
  replace H : (if t25 = true then (some true) else (some false)) = some r := H
  have A4 := Aside0.mk A40
  clear A40
  by_cases c5 : t25 = true
  ·subst c5
   have H1 : (some true) = some r := by rw [if_pos rfl] at H; exact H
   clear H
   have H := H1
   clear H1
   obtain rfl := Option.some.inj H
   go_enter Try.func32, Try.ntmps32
   go_wp2_with (first | ((with_reducible refine gate_dst (N := 2) rfl ?_); refine box_event ?hg (N := 2) ?hd (cs := #[.int .i64 a0_0, .slice A0_1 l0_1.length c0_1]) (t := 55) ?hr ?_; (case hd => rfl); (case hg => rfl); (case hr => first | (go_simp; done) | (go_simp; rfl)); intro gb23 hg w6 hbox hb; have n0_ := Aside0.mk (below_step (by apply_rules [HB.out, below_alloc, pw_below_drewN, below_drew1]) hb); have n1_ := Aside0.mk (hbox); have n2_ := Aside0.mk ((by rw [hg]; exact (below_size (by apply_rules [HB.out, below_alloc, pw_below_drewN, below_drew1])) : w.heap.size ≤ gb23)); have n3_ := n2_; clear HB; have HB := n0_; have BK23 := n1_; have GW23 := n2_; have GE23 := n3_; clear n0_ n1_ n2_ n3_; clear hb hbox hg) | ((with_reducible refine gate_dst (N := 3) rfl ?_); refine box_event ?hg (N := 3) ?hd (cs := #[.int .i64 a1_0, .slice A1_1 l1_1.length c1_1]) (t := 55) ?hr ?_; (case hd => rfl); (case hg => rfl); (case hr => first | (go_simp; done) | (go_simp; rfl)); intro gb24 hg w7 hbox hb; have n0_ := Aside0.mk (blk_below (g := gb23) (o := .cells #[.int .i64 a0_0, .slice A0_1 l0_1.length c0_1] 55 (0, 0)) (by apply_rules [BK23.out, blk_drewN, blk_drew, blk_alloc]) hb); have n1_ := Aside0.mk (below_step (by apply_rules [HB.out, below_alloc, pw_below_drewN, below_drew1, below_set, GE23.out]) hb); have n2_ := Aside0.mk (hbox); have n3_ := Aside0.mk ((by rw [hg]; exact (below_size (by apply_rules [HB.out, below_alloc, pw_below_drewN, below_drew1, below_set, GE23.out])) : w.heap.size ≤ gb24)); have n4_ := n3_; have n5_ := Aside0.mk ((by rw [hg]; exact Nat.ne_of_lt (blk_lt (g := gb23) (o := .cells #[.int .i64 a0_0, .slice A0_1 l0_1.length c0_1] 55 (0, 0)) (by apply_rules [BK23.out, blk_drewN, blk_drew, blk_alloc])) : gb23 ≠ gb24)); have n6_ := Aside0.mk ((by rw [hg]; exact Nat.ne_of_gt (blk_lt (g := gb23) (o := .cells #[.int .i64 a0_0, .slice A0_1 l0_1.length c0_1] 55 (0, 0)) (by apply_rules [BK23.out, blk_drewN, blk_drew, blk_alloc])) : gb24 ≠ gb23)); clear BK23; clear HB; have BK23 := n0_; have HB := n1_; have BK24 := n2_; have GW24 := n3_; have GE24 := n4_; have NB535_536 := n5_; have NB536_535 := n6_; clear n0_ n1_ n2_ n3_ n4_ n5_ n6_; clear hb hbox hg; have hnb8 := NB535_536.out; have hnc8 := NB536_535.out; obtain ⟨hcz9_0, hcz9_1, hfz9_0, hfz9_1⟩ := Lv.blks2 BK23.out; obtain ⟨hcz10_0, hcz10_1, hfz10_0, hfz10_1⟩ := Lv.blks2 BK24.out) | ((with_reducible refine gate_callee (f := 88) rfl ?_); refine goesL_ (some 14) rfl rfl Try.func88 (by kernel_rfl) rfl #[.slice A0_1 l0_1.length c0_1, .slice A1_1 l1_1.length c1_1] rfl (by first | rfl | (simp only [List.map_toArray, List.map_cons, List.map_nil]; rfl)) ?_; (with_reducible refine (laws_eqVersionS.calls k _ _ l0_1 _ _ l1_1 true _ ?side1 ?side2 ?side3 ?side4 A4.out).mono ?_); (case side1 => repeat (first | exact (Kd.C_below HR0_1.out HB.out) | (with_reducible first | refine Kd.C_alloc ?_ _ | refine Kd.C_drewN ?_ _ | refine Kd.C_drew ?_))); (case side2 => exact HC0_1.out); (case side3 => repeat (first | exact (Kd.C_below HR1_1.out HB.out) | (with_reducible first | refine Kd.C_alloc ?_ _ | refine Kd.C_drewN ?_ _ | refine Kd.C_drew ?_))); (case side4 => exact HC1_1.out); rintro e w11 ⟨rfl, hb⟩; refine ⟨_, rfl, ?_⟩; have n0_ := Aside0.mk (blk_below (g := gb23) (o := .cells #[.int .i64 a0_0, .slice A0_1 l0_1.length c0_1] 55 (0, 0)) (by apply_rules [BK23.out, blk_drewN, blk_drew, blk_alloc]) hb); have n1_ := Aside0.mk (blk_below (g := gb24) (o := .cells #[.int .i64 a1_0, .slice A1_1 l1_1.length c1_1] 55 (0, 0)) (by apply_rules [BK24.out, blk_drewN, blk_drew, blk_alloc]) hb); have n2_ := Aside0.mk (below_step (by apply_rules [HB.out, below_alloc, pw_below_drewN, below_drew1, below_set, GE23.out, GE24.out]) hb); clear BK23; clear BK24; clear HB; have BK23 := n0_; have BK24 := n1_; have HB := n2_; clear n0_ n1_ n2_; (try clear hb); (try clear hb2); (try clear hk); (try clear hi)))
   go_ret
   exact ⟨by first | rfl | (simp [errW_none, errW_some] <;> rfl) | (simp [*, errW_none, errW_some] <;> rfl), by apply_rules [HB.out, below_alloc, pw_below_drewN, below_drew1, below_set, GE23.out, GE24.out]⟩
  replace c5 := Bool.eq_false_iff.mpr c5
  subst c5
  have H1 : (some false) = some r := by rw [if_neg (show ¬ (false = true) by decide)] at H; exact H
  clear H
  have H := H1
  clear H1
  obtain rfl := Option.some.inj H
  go_enter Try.func32, Try.ntmps32
  go_wp2_with (first | ((with_reducible refine gate_dst (N := 2) rfl ?_); refine box_event ?hg (N := 2) ?hd (cs := #[.int .i64 a0_0, .slice A0_1 l0_1.length c0_1]) (t := 55) ?hr ?_; (case hd => rfl); (case hg => rfl); (case hr => first | (go_simp; done) | (go_simp; rfl)); intro gb23 hg w12 hbox hb; have n0_ := Aside0.mk (below_step (by apply_rules [HB.out, below_alloc, pw_below_drewN, below_drew1]) hb); have n1_ := Aside0.mk (hbox); have n2_ := Aside0.mk ((by rw [hg]; exact (below_size (by apply_rules [HB.out, below_alloc, pw_below_drewN, below_drew1])) : w.heap.size ≤ gb23)); have n3_ := n2_; clear HB; have HB := n0_; have BK23 := n1_; have GW23 := n2_; have GE23 := n3_; clear n0_ n1_ n2_ n3_; clear hb hbox hg) | ((with_reducible refine gate_dst (N := 3) rfl ?_); refine box_event ?hg (N := 3) ?hd (cs := #[.int .i64 a1_0, .slice A1_1 l1_1.length c1_1]) (t := 55) ?hr ?_; (case hd => rfl); (case hg => rfl); (case hr => first | (go_simp; done) | (go_simp; rfl)); intro gb24 hg w13 hbox hb; have n0_ := Aside0.mk (blk_below (g := gb23) (o := .cells #[.int .i64 a0_0, .slice A0_1 l0_1.length c0_1] 55 (0, 0)) (by apply_rules [BK23.out, blk_drewN, blk_drew, blk_alloc]) hb); have n1_ := Aside0.mk (below_step (by apply_rules [HB.out, below_alloc, pw_below_drewN, below_drew1, below_set, GE23.out]) hb); have n2_ := Aside0.mk (hbox); have n3_ := Aside0.mk ((by rw [hg]; exact (below_size (by apply_rules [HB.out, below_alloc, pw_below_drewN, below_drew1, below_set, GE23.out])) : w.heap.size ≤ gb24)); have n4_ := n3_; have n5_ := Aside0.mk ((by rw [hg]; exact Nat.ne_of_lt (blk_lt (g := gb23) (o := .cells #[.int .i64 a0_0, .slice A0_1 l0_1.length c0_1] 55 (0, 0)) (by apply_rules [BK23.out, blk_drewN, blk_drew, blk_alloc])) : gb23 ≠ gb24)); have n6_ := Aside0.mk ((by rw [hg]; exact Nat.ne_of_gt (blk_lt (g := gb23) (o := .cells #[.int .i64 a0_0, .slice A0_1 l0_1.length c0_1] 55 (0, 0)) (by apply_rules [BK23.out, blk_drewN, blk_drew, blk_alloc])) : gb24 ≠ gb23)); clear BK23; clear HB; have BK23 := n0_; have HB := n1_; have BK24 := n2_; have GW24 := n3_; have GE24 := n4_; have NB535_536 := n5_; have NB536_535 := n6_; clear n0_ n1_ n2_ n3_ n4_ n5_ n6_; clear hb hbox hg; have hnb14 := NB535_536.out; have hnc14 := NB536_535.out; obtain ⟨hcz15_0, hcz15_1, hfz15_0, hfz15_1⟩ := Lv.blks2 BK23.out; obtain ⟨hcz16_0, hcz16_1, hfz16_0, hfz16_1⟩ := Lv.blks2 BK24.out) | ((with_reducible refine gate_callee (f := 88) rfl ?_); refine goesL_ (some 14) rfl rfl Try.func88 (by kernel_rfl) rfl #[.slice A0_1 l0_1.length c0_1, .slice A1_1 l1_1.length c1_1] rfl (by first | rfl | (simp only [List.map_toArray, List.map_cons, List.map_nil]; rfl)) ?_; (with_reducible refine (laws_eqVersionS.calls k _ _ l0_1 _ _ l1_1 false _ ?side1 ?side2 ?side3 ?side4 A4.out).mono ?_); (case side1 => repeat (first | exact (Kd.C_below HR0_1.out HB.out) | (with_reducible first | refine Kd.C_alloc ?_ _ | refine Kd.C_drewN ?_ _ | refine Kd.C_drew ?_))); (case side2 => exact HC0_1.out); (case side3 => repeat (first | exact (Kd.C_below HR1_1.out HB.out) | (with_reducible first | refine Kd.C_alloc ?_ _ | refine Kd.C_drewN ?_ _ | refine Kd.C_drew ?_))); (case side4 => exact HC1_1.out); rintro e w17 ⟨rfl, hb⟩; refine ⟨_, rfl, ?_⟩; have n0_ := Aside0.mk (blk_below (g := gb23) (o := .cells #[.int .i64 a0_0, .slice A0_1 l0_1.length c0_1] 55 (0, 0)) (by apply_rules [BK23.out, blk_drewN, blk_drew, blk_alloc]) hb); have n1_ := Aside0.mk (blk_below (g := gb24) (o := .cells #[.int .i64 a1_0, .slice A1_1 l1_1.length c1_1] 55 (0, 0)) (by apply_rules [BK24.out, blk_drewN, blk_drew, blk_alloc]) hb); have n2_ := Aside0.mk (below_step (by apply_rules [HB.out, below_alloc, pw_below_drewN, below_drew1, below_set, GE23.out, GE24.out]) hb); clear BK23; clear BK24; clear HB; have BK23 := n0_; have BK24 := n1_; have HB := n2_; clear n0_ n1_ n2_; (try clear hb); (try clear hb2); (try clear hk); (try clear hi)))
  go_ret
  exact ⟨by first | rfl | (simp [errW_none, errW_some] <;> rfl) | (simp [*, errW_none, errW_some] <;> rfl), by apply_rules [HB.out, below_alloc, pw_below_drewN, below_drew1, below_set, GE23.out, GE24.out]⟩
 rw [if_neg c3] at H
 have c3b0 : (a0_0 == a1_0) = false := beq_eq_false_iff_ne.mpr c3
 have c3b1 : (a0_0 != a1_0) = true := bne_iff_ne.mpr c3
 obtain rfl := Option.some.inj H
 go_enter Try.func32, Try.ntmps32
 go_wp2_with (first | ((with_reducible refine gate_dst (N := 2) rfl ?_); refine box_event ?hg (N := 2) ?hd (cs := #[.int .i64 a0_0, .slice A0_1 l0_1.length c0_1]) (t := 55) ?hr ?_; (case hd => rfl); (case hg => rfl); (case hr => first | (go_simp; done) | (go_simp; rfl)); intro gb23 hg w18 hbox hb; have n0_ := Aside0.mk (below_step (by apply_rules [HB.out, below_alloc, pw_below_drewN, below_drew1]) hb); have n1_ := Aside0.mk (hbox); have n2_ := Aside0.mk ((by rw [hg]; exact (below_size (by apply_rules [HB.out, below_alloc, pw_below_drewN, below_drew1])) : w.heap.size ≤ gb23)); have n3_ := n2_; clear HB; have HB := n0_; have BK23 := n1_; have GW23 := n2_; have GE23 := n3_; clear n0_ n1_ n2_ n3_; clear hb hbox hg) | ((with_reducible refine gate_dst (N := 3) rfl ?_); refine box_event ?hg (N := 3) ?hd (cs := #[.int .i64 a1_0, .slice A1_1 l1_1.length c1_1]) (t := 55) ?hr ?_; (case hd => rfl); (case hg => rfl); (case hr => first | (go_simp; done) | (go_simp; rfl)); intro gb24 hg w19 hbox hb; have n0_ := Aside0.mk (blk_below (g := gb23) (o := .cells #[.int .i64 a0_0, .slice A0_1 l0_1.length c0_1] 55 (0, 0)) (by apply_rules [BK23.out, blk_drewN, blk_drew, blk_alloc]) hb); have n1_ := Aside0.mk (below_step (by apply_rules [HB.out, below_alloc, pw_below_drewN, below_drew1, below_set, GE23.out]) hb); have n2_ := Aside0.mk (hbox); have n3_ := Aside0.mk ((by rw [hg]; exact (below_size (by apply_rules [HB.out, below_alloc, pw_below_drewN, below_drew1, below_set, GE23.out])) : w.heap.size ≤ gb24)); have n4_ := n3_; have n5_ := Aside0.mk ((by rw [hg]; exact Nat.ne_of_lt (blk_lt (g := gb23) (o := .cells #[.int .i64 a0_0, .slice A0_1 l0_1.length c0_1] 55 (0, 0)) (by apply_rules [BK23.out, blk_drewN, blk_drew, blk_alloc])) : gb23 ≠ gb24)); have n6_ := Aside0.mk ((by rw [hg]; exact Nat.ne_of_gt (blk_lt (g := gb23) (o := .cells #[.int .i64 a0_0, .slice A0_1 l0_1.length c0_1] 55 (0, 0)) (by apply_rules [BK23.out, blk_drewN, blk_drew, blk_alloc])) : gb24 ≠ gb23)); clear BK23; clear HB; have BK23 := n0_; have HB := n1_; have BK24 := n2_; have GW24 := n3_; have GE24 := n4_; have NB535_536 := n5_; have NB536_535 := n6_; clear n0_ n1_ n2_ n3_ n4_ n5_ n6_; clear hb hbox hg; have hnb20 := NB535_536.out; have hnc20 := NB536_535.out; obtain ⟨hcz21_0, hcz21_1, hfz21_0, hfz21_1⟩ := Lv.blks2 BK23.out; obtain ⟨hcz22_0, hcz22_1, hfz22_0, hfz22_1⟩ := Lv.blks2 BK24.out))
 go_ret
 exact ⟨by first | rfl | (simp [errW_none, errW_some] <;> rfl) | (simp [*, errW_none, errW_some] <;> rfl), by apply_rules [HB.out, below_alloc, pw_below_drewN, below_drew1, below_set, GE23.out, GE24.out]⟩
set_option maxHeartbeats 8000000 in
set_option maxRecDepth 100000 in
theorem laws_markChainResult.calls (k : Nat) (a0_0 : Int) (P0_1_ : Nat → Prop) (u9000_ : Value) (l0_1 : List (S90)) (a1 : Int) (r1 : Int) (r2 : List (S90)) (w0 w : World) (hB : Below w0.heap.size w0 w) (ho0_1 : Kd.R k90 90 w w0.heap.size P0_1_ u9000_ l0_1) (h : laws_markChainResult.f k a0_0 l0_1 a1 = some (r1, r2)) :
 Calls Try.prog 34 #[.agg #[.int .i64 a0_0, u9000_], .int .i64 a1] w fun e w' => e = .returned (.int .i64 r1) ∧ Kd.R k90 90 w' w0.heap.size (fun k_ => (P0_1_ k_ ∨ w.heap.size ≤ k_)) u9000_ r2 ∧ Below w0.heap.size w0 w' ∧ Kept w w' (fun k_ => P0_1_ k_) := by
 have hu55 := Try.underlying55
 have HO0_1 := Aside0.mk (show Kd.R k90 90 w w0.heap.size (fun k_ => (P0_1_ k_ ∨ w.heap.size ≤ k_)) u9000_ l0_1 from Kd.R_mono ho0_1 (fun k_ hk => (.inl hk)))
 have HK := Aside0.mk (Kept.refl w (fun k_ => P0_1_ k_))
 have HW0 := Aside0.mk hB.size
 have HB := Aside0.mk hB
 clear hB
 have H : ((laws_markVersionS.f k l0_1 a1).bind fun bt10 => (some (bt10.1, bt10.2))) = some (r1, r2) := h
 clear h
 replace H := Option.bind_eq_some_iff.mp H
 obtain ⟨⟨t10, t11⟩, A30, H⟩ := H
 replace H : (some (t10, t11)) = some (r1, r2) := H
 have A3 := Aside0.mk A30
 clear A30
 simp only [Option.some.injEq, Prod.mk.injEq] at H
 obtain ⟨rfl, rfl⟩ := H
 obtain ⟨Ao4, co4, eo4⟩ := Kd.R_slice HO0_1.out
 subst eo4
 go_enter Try.func34, Try.ntmps34
 go_wp2_with (first | ((with_reducible refine gate_dst (N := 2) rfl ?_); refine box_event ?hg (N := 2) ?hd (cs := #[.int .i64 a0_0, .slice Ao4 l0_1.length co4]) (t := 55) ?hr ?_; (case hd => rfl); (case hg => rfl); (case hr => first | (go_simp; done) | (go_simp; rfl)); intro gb9 hg w5 hbox hb; have n0_ := Aside0.mk (Kd.R_below (by (with_reducible repeat (first | apply Kd.R_alloc | apply Kd.R_drewN | apply Kd.R_drew)); exact HO0_1.out) hb); have n1_ := Aside0.mk (Kept.below (S := (fun k_ => P0_1_ k_)) (by repeat (first | (with_reducible first | exact HK.out | apply Kept.alloc | apply Kept.drewN | apply Kept.drew) | exact HK.out)) hb); have n2_ := Aside0.mk (below_step (by apply_rules [HB.out, below_alloc, pw_below_drewN, below_drew1]) hb); have n3_ := Aside0.mk (hbox); have n4_ := Aside0.mk ((by rw [hg]; exact (by first | exact HK.out.1 | exact (show Kept w _ (fun k_ => P0_1_ k_) from by repeat (first | (with_reducible first | exact HK.out | apply Kept.alloc | apply Kept.drewN | apply Kept.drew) | exact HK.out)).1) : w.heap.size ≤ gb9)); have n5_ := Aside0.mk ((by rw [hg]; exact (below_size (by apply_rules [HB.out, below_alloc, pw_below_drewN, below_drew1])) : w0.heap.size ≤ gb9)); clear HO0_1; clear HK; clear HB; have HO0_1 := n0_; have HK := n1_; have HB := n2_; have BK9 := n3_; have GW9 := n4_; have GE9 := n5_; clear n0_ n1_ n2_ n3_ n4_ n5_; clear hb hbox hg; obtain ⟨hcz6_0, hcz6_1, hfz6_0, hfz6_1⟩ := Lv.blks2 BK9.out) | ((with_reducible refine gate_callee (f := 91) rfl ?_); refine goesL_ (some 8) rfl rfl Try.func91 (by kernel_rfl) rfl #[.slice Ao4 l0_1.length co4, .int .i64 a1] rfl (by first | rfl | (simp only [List.map_toArray, List.map_cons, List.map_nil]; rfl)) ?_; (with_reducible refine (laws_markVersionS.calls k (fun k_ => some k_ = (.slice Ao4 l0_1.length co4 : Value).ownBlock) (.slice Ao4 l0_1.length co4) l0_1 a1 t10 t11 w0 _ ?side1 ?side2 A3.out).mono ?_); (case side1 => apply_rules [HB.out, below_alloc, pw_below_drewN, below_drew1, below_set, GE9.out]); (case side2 => exact Kd.R_tight rfl HO0_1.out); rintro e w7 ⟨rfl, hy0, hb, hkp⟩; refine ⟨_, rfl, ?_⟩; have n0_ := Aside0.mk (Kd.R_reok rfl hy0 (fun k_ e_ => HO0_1.out.1 k_ e_)); have n1_ := Aside0.mk (blk_kept (by apply_rules [BK9.out, blk_drewN, blk_drew, blk_alloc]) hkp (fun hs_ => (fun e_ => (Kd.R_ne HO0_1.out BK9.out (by decide)) e_) hs_)); have n2_ := Aside0.mk (Kept.then_ (S := (fun k_ => P0_1_ k_)) (by repeat (first | (with_reducible first | exact HK.out | apply Kept.alloc | apply Kept.drewN | apply Kept.drew | refine Kept.setCell ?_ (.inr GW9.out) _) | exact HK.out)) hkp (fun k_ hs_ => (fun e_ => (HO0_1.out.1 k_ e_.symm)) hs_)); have n3_ := Aside0.mk (hb); clear HO0_1; clear BK9; clear HK; clear HB; have HO0_1 := n0_; have BK9 := n1_; have HK := n2_; have HB := n3_; clear n0_ n1_ n2_ n3_; (try clear hb); (try clear hkp); (try clear hy0)))
 go_ret
 exact ⟨by first | rfl | (simp [errW_none, errW_some] <;> rfl) | (simp [*, errW_none, errW_some] <;> rfl), by (with_reducible repeat (first | apply Kd.R_alloc | apply Kd.R_drewN | apply Kd.R_drew)); exact HO0_1.out, by apply_rules [HB.out, below_alloc, pw_below_drewN, below_drew1, below_set, GE9.out], by repeat (first | (with_reducible first | exact HK.out | apply Kept.alloc | apply Kept.drewN | apply Kept.drew | refine Kept.setCell ?_ (.inr GW9.out) _) | exact HK.out)⟩
set_option maxHeartbeats 8000000 in
set_option maxRecDepth 100000 in
theorem laws_heldChainResult.calls (k : Nat) (a0_0 : Int) (A0_1 : Option Addr) (c0_1 : Nat) (l0_1 : List (S90)) (a1 : Int) (r : Int) (w : World) (hr0_1 : Kd.C k90 w A0_1 l0_1.length l0_1) (hc0_1 : l0_1.length ≤ c0_1) (h : laws_heldChainResult.f k a0_0 l0_1 a1 = some r) :
 Calls Try.prog 35 #[.agg #[.int .i64 a0_0, .slice A0_1 l0_1.length c0_1], .int .i64 a1] w fun e w' => e = .returned (.int .i64 r) ∧ Below w.heap.size w w' := by
 have hu55 := Try.underlying55
 have HR0_1 := Aside0.mk hr0_1
 have HC0_1 := Aside0.mk hc0_1
 clear hr0_1 hc0_1
 have HB := Aside0.mk (Below.refl w.heap.size w)
 have H : ((laws_heldVersionS.f k l0_1 a1).bind fun t10 => (if t10 < 0 then (some (-1)) else (some t10))) = some r := h
 clear h
 replace H := Option.bind_eq_some_iff.mp H
 obtain ⟨t10, A30, H⟩ := H
 replace H : (if t10 < 0 then (some (-1)) else (some t10)) = some r := H
 have A3 := Aside0.mk A30
 clear A30
 by_cases c4 : t10 < 0
 ·rw [if_pos c4] at H
  have c4b0 : decide (t10 < 0) = true := decide_eq_true c4
  clear c4
  obtain rfl := Option.some.inj H
  go_enter Try.func35, Try.ntmps35
  go_wp2_with (first | ((with_reducible refine gate_dst (N := 2) rfl ?_); refine box_event ?hg (N := 2) ?hd (cs := #[.int .i64 a0_0, .slice A0_1 l0_1.length c0_1]) (t := 55) ?hr ?_; (case hd => rfl); (case hg => rfl); (case hr => first | (go_simp; done) | (go_simp; rfl)); intro gb9 hg w5 hbox hb; have n0_ := Aside0.mk (below_step (by apply_rules [HB.out, below_alloc, pw_below_drewN, below_drew1]) hb); have n1_ := Aside0.mk (hbox); have n2_ := Aside0.mk ((by rw [hg]; exact (below_size (by apply_rules [HB.out, below_alloc, pw_below_drewN, below_drew1])) : w.heap.size ≤ gb9)); have n3_ := n2_; clear HB; have HB := n0_; have BK9 := n1_; have GW9 := n2_; have GE9 := n3_; clear n0_ n1_ n2_ n3_; clear hb hbox hg; obtain ⟨hcz6_0, hcz6_1, hfz6_0, hfz6_1⟩ := Lv.blks2 BK9.out) | ((with_reducible refine gate_callee (f := 92) rfl ?_); refine goesL_ (some 8) rfl rfl Try.func92 (by kernel_rfl) rfl #[.slice A0_1 l0_1.length c0_1, .int .i64 a1] rfl (by first | rfl | (simp only [List.map_toArray, List.map_cons, List.map_nil]; rfl)) ?_; (with_reducible refine (laws_heldVersionS.calls k _ _ l0_1 a1 t10 _ ?side1 ?side2 A3.out).mono ?_); (case side1 => repeat (first | exact (Kd.C_below HR0_1.out HB.out) | (with_reducible first | refine Kd.C_alloc ?_ _ | refine Kd.C_drewN ?_ _ | refine Kd.C_drew ?_))); (case side2 => exact HC0_1.out); rintro e w' ⟨rfl, ⟨nd, rfl⟩⟩; refine ⟨_, rfl, ?_⟩))
  go_ret
  exact ⟨by first | rfl | (simp [errW_none, errW_some] <;> rfl) | (simp [*, errW_none, errW_some] <;> rfl), by apply_rules [HB.out, below_alloc, pw_below_drewN, below_drew1, below_set, GE9.out]⟩
 rw [if_neg c4] at H
 have c4b0 : decide (t10 < 0) = false := decide_eq_false c4
 clear c4
 obtain rfl := Option.some.inj H
 go_enter Try.func35, Try.ntmps35
 go_wp2_with (first | ((with_reducible refine gate_dst (N := 2) rfl ?_); refine box_event ?hg (N := 2) ?hd (cs := #[.int .i64 a0_0, .slice A0_1 l0_1.length c0_1]) (t := 55) ?hr ?_; (case hd => rfl); (case hg => rfl); (case hr => first | (go_simp; done) | (go_simp; rfl)); intro gb9 hg w7 hbox hb; have n0_ := Aside0.mk (below_step (by apply_rules [HB.out, below_alloc, pw_below_drewN, below_drew1]) hb); have n1_ := Aside0.mk (hbox); have n2_ := Aside0.mk ((by rw [hg]; exact (below_size (by apply_rules [HB.out, below_alloc, pw_below_drewN, below_drew1])) : w.heap.size ≤ gb9)); have n3_ := n2_; clear HB; have HB := n0_; have BK9 := n1_; have GW9 := n2_; have GE9 := n3_; clear n0_ n1_ n2_ n3_; clear hb hbox hg; obtain ⟨hcz8_0, hcz8_1, hfz8_0, hfz8_1⟩ := Lv.blks2 BK9.out) | ((with_reducible refine gate_callee (f := 92) rfl ?_); refine goesL_ (some 8) rfl rfl Try.func92 (by kernel_rfl) rfl #[.slice A0_1 l0_1.length c0_1, .int .i64 a1] rfl (by first | rfl | (simp only [List.map_toArray, List.map_cons, List.map_nil]; rfl)) ?_; (with_reducible refine (laws_heldVersionS.calls k _ _ l0_1 a1 t10 _ ?side1 ?side2 A3.out).mono ?_); (case side1 => repeat (first | exact (Kd.C_below HR0_1.out HB.out) | (with_reducible first | refine Kd.C_alloc ?_ _ | refine Kd.C_drewN ?_ _ | refine Kd.C_drew ?_))); (case side2 => exact HC0_1.out); rintro e w' ⟨rfl, ⟨nd, rfl⟩⟩; refine ⟨_, rfl, ?_⟩))
 go_ret
 exact ⟨by first | rfl | (simp [errW_none, errW_some] <;> rfl) | (simp [*, errW_none, errW_some] <;> rfl), by apply_rules [HB.out, below_alloc, pw_below_drewN, below_drew1, below_set, GE9.out]⟩
end Go.Proofs.Ytonbnmaelepcbaa.P
