import Derived.Test.YtonbnmaelepcbaaZz
import Derived.Test.YtonbnmaelepcbaaP0
import Derived.Test.YtonbnmaelepcbaaPCacdefgh2
import Derived.Test.YtonbnmaelepcbaaPCacdefgh6
import Derived.Test.YtonbnmaelepcbaaPCall0
import Derived.Test.YtonbnmaelepcbaaPCdgh0
import Derived.Test.YtonbnmaelepcbaaPCdgh1
import Derived.Test.YtonbnmaelepcbaaPDacdefgh0
import Derived.Test.YtonbnmaelepcbaaPDm0
import Derived.Test.YtonbnmaelepcbaaPDm1
import Derived.Test.YtonbnmaelepcbaaWRepsOne
import Derived.Test.YtonbnmaelepcbaaLb
import Derived.Test.YtonbnmaelepcbaaLv
import Derived.IntWalk
import Derived.Shelf.Abstract
import Derived.Test.YtonbnmaelepcbaaLv
namespace Go.Proofs.Ytonbnmaelepcbaa.P
open Go.RowKit Go.Proofs.YtonbnmaelepcbaaW.PrintWords Go.Proofs.YtonbnmaelepcbaaW.PrintLast Go.Proofs.YtonbnmaelepcbaaW.PrintMore
attribute [local go_sem] max2_int min2_int max_two min_two max_three min_three max_four min_four   -- for this text's walks alone
set_option linter.unusedVariables false
set_option linter.unusedSimpArgs false
-- PROOF --
set_option maxHeartbeats 8000000 in
set_option maxRecDepth 100000 in
theorem spec_l6Scan.at {g : Nat} (k : Nat) (a0_0 a0_1 : Int) (A2 : Option Addr) (c2 : Nat) (l2 : List S83) (A3 : Option Addr) (c3 : Nat) (l3 : List S87) (at_ id lo hi : Int) (r : List S105) (w : World) (hr2 : Kd.C k83 w A2 l2.length l2) (hc2 : l2.length ≤ c2) (hr3 : Kd.C k87 w A3 l3.length l3) (hc3 : l3.length ≤ c3) (h : spec_l6Scan.f k l3 at_ id lo hi = some r) (hbx : Aside0 (w.heap[g]? = some (Obj.cells #[.int .i64 a0_0, .int .i64 a0_1, .slice A2 l2.length c2, .slice A3 l3.length c3] 31))) :
 Calls Try.prog 100 #[.pointer (some ⟨g, 0, none⟩), .agg #[.int .i64 at_, .int .i64 id], .int .i64 lo, .int .i64 hi] w fun e w' => ∃ v_ : Value, e = .returned v_ ∧ Kd.R k105 105 w' w.heap.size (fun _ => True) v_ r ∧ Below w.heap.size w w' := by
 have hu31 := Try.underlying31
 have hu87 := Try.underlying87
 have hu105 := Try.underlying105
 have hu116 := Try.underlying116
 have HB := Aside0.mk (Below.refl w.heap.size w)
 have HR2 := Aside0.mk hr2
 have HR3 := Aside0.mk hr3
 have HC2 := Aside0.mk hc2
 have HC3 := Aside0.mk hc3
 have hn2 := hr2.2.1
 have hn3 := hr3.2.1
 clear hr2 hr3 hc2 hc3
 have H0 := Aside0.mk (show spec_l6Scan.l0 k l3 at_ id lo hi 0 [] = some r from h)
 clear h
 go_enter Try.func100, Try.ntmps100
 go_wp2_with ((with_reducible refine gate_dst (N := 14) rfl ?_); refine Kd.R_lit k105 _ 105 ?hg (N := 14) ?hd (xs := ([] : List S105)) (inner := []) (ok := fun _ => True) (okp := fun _ => True) ?hr ?hp (fun _ hk => hk) trivial (Below.refl _ _) (Nat.le_refl _) (by simp) ?_; (case hd => rfl); (case hg => rfl); (case hr => first | (go_simp; done) | (go_simp; rfl)); (case hp => exact (Reps.none _ _)); intro v1_ w1 ho1 hb1 hg1 hn1; clear hg1 hn1)
 have HO := Aside0.mk (Kd.R_lower ho1 (below_size (below_alloc (Below.refl w.heap.size w) (Obj.cells #[.int .i64 at_, .int .i64 id] 116))))
 have XV := Aside0.mk (keepB hb1 (blk_new w (Obj.cells #[.int .i64 at_, .int .i64 id] 116)))
 replace HB := Aside0.mk (show Below w.heap.size w w1 from below_step (below_alloc (Below.refl _ _) _) hb1)
 clear ho1 hb1
 go_loopg [9, 10] k (fun kq v9 v10 wr => ∃ (acc : List S105) (i : Int), v10 = .int .i64 i ∧ Aside0 (spec_l6Scan.l0 kq l3 at_ id lo hi i acc = some r) ∧ Aside0 (kq ≤ k) ∧ Aside0 (Kd.R k105 105 wr w.heap.size (fun _ => True) v9 acc) ∧ Aside0 (wr.heap[w.heap.size]? = some (Obj.cells #[.int .i64 at_, .int .i64 id] 116)) ∧ Aside0 (Below w.heap.size w wr))
 case atStart => exact ⟨[], 0, rfl, H0, ⟨Nat.le_refl _⟩, HO, XV, HB⟩
 case round =>
  clear H0 HO XV HB
  obtain ⟨acc, i, rfl, HA, HK1, HO, XV, HB⟩ := hrel
  have X0 := Aside0.mk (keepB HB.out hbx.out)
  cases gk with
  | zero => exact absurd HA.out (by simp [spec_l6Scan.l0])
  | succ k1 =>
   have H := HA.out
   clear HA
   simp only [spec_l6Scan.l0] at H
   by_cases c1 : i < (l3.length : Int)
   ·rw [if_pos c1] at H
    by_cases p2 : 0 ≤ i
    ·rw [if_pos p2] at H
     have E9 := Aside0.mk (show wrap64 (i + 1) = i + 1 from Lb.w64 (by omega) (by have := HR3.out.2.1; omega))
     have d1 : decide (i < (l3.length : Int)) = true := decide_eq_true c1
     obtain ⟨⟨v1, v2⟩, hv, H⟩ := Option.bind_eq_some_iff.mp H
     obtain ⟨ad, A1, c1_, ea, hq0, -, -, -⟩ := at_T87 HR3.out i p2 c1
     cases ea
     obtain ⟨key, hk⟩ : ∃ x, x = (rd_T87 l3 i).f0 := ⟨_, rfl⟩
     rw [← hk] at hv H hq0
     clear hk
     have HV := Aside0.mk hv
     clear hv
     replace hq0 := pw_cell_below HB.out hq0
     cases v2
     ·rw [if_neg (show ¬ ((v1, false) : Int × Bool).2 = true from by simp)] at H
      have H' := Aside0.mk H
      clear H
      have cX0_0 : wr.cell? ⟨g, 0, none⟩ = some (.int .i64 a0_0) := (blk_cell X0.out 0).trans rfl
      have cX0_1 : wr.cell? ⟨g, 1, none⟩ = some (.int .i64 a0_1) := (blk_cell X0.out 1).trans rfl
      have cX0_2 : wr.cell? ⟨g, 2, none⟩ = some (.slice A2 l2.length c2) := (blk_cell X0.out 2).trans rfl
      have cX0_3 : wr.cell? ⟨g, 3, none⟩ = some (.slice (some ad) l3.length c3) := (blk_cell X0.out 3).trans rfl
      have lX0 : g < wr.heap.size := blk_lt X0.out
      have nX0 : g ≠ wr.heap.size := Nat.ne_of_lt (blk_lt X0.out)
      have cXV_0 : wr.cell? ⟨w.heap.size, 0, none⟩ = some (.int .i64 at_) := (blk_cell XV.out 0).trans rfl
      have cXV_1 : wr.cell? ⟨w.heap.size, 1, none⟩ = some (.int .i64 id) := (blk_cell XV.out 1).trans rfl
      have lXV : w.heap.size < wr.heap.size := blk_lt XV.out
      have nXV : w.heap.size ≠ wr.heap.size := Nat.ne_of_lt (blk_lt XV.out)
      go_wp2_with fail
      clear hq0
      refine (spec_l6Read.at (g := g) k1 a0_0 a0_1 A2 c2 l2 _ c3 l3 at_ id key v1 false _ (Kd.C_below HR2.out HB.out) HC2.out (Kd.C_below HR3.out HB.out) HC3.out HV.out X0).mono ?_
      rintro e u2 ⟨rfl, hb⟩
      clear cX0_0 cX0_1 cX0_2 cX0_3 lX0 nX0 cXV_0 cXV_1 lXV nXV
      have hsz := hb.size
      replace HB := Aside0.mk (show Below w.heap.size w u2 from below_step HB.out hb)
      replace X0 := Aside0.mk (keepB hb X0.out)
      replace XV := Aside0.mk (keepB hb XV.out)
      replace HO := Aside0.mk (Kd.R_below HO.out hb)
      have z1 := Aside0.mk hsz
      clear hsz
      clear hb
      go_wp2_with fail
      go_roundg k1
      case measure => have := HK1.out; omega
      case rel => exact ⟨acc, wrap64 (i + 1), by first | rfl | rw [E9.out], H', ⟨by have := HK1.out; omega⟩, ⟨zr HO⟩, ⟨zq XV⟩, ⟨zb⟩⟩
     ·rw [if_pos rfl] at H
      cases hi2 : inB key lo hi with
      | false =>
       rw [if_neg (by rw [hi2]; decide)] at H
       have HI2 := Aside0.mk hi2
       clear hi2
       have H' := Aside0.mk H
       clear H
       have cX0_0 : wr.cell? ⟨g, 0, none⟩ = some (.int .i64 a0_0) := (blk_cell X0.out 0).trans rfl
       have cX0_1 : wr.cell? ⟨g, 1, none⟩ = some (.int .i64 a0_1) := (blk_cell X0.out 1).trans rfl
       have cX0_2 : wr.cell? ⟨g, 2, none⟩ = some (.slice A2 l2.length c2) := (blk_cell X0.out 2).trans rfl
       have cX0_3 : wr.cell? ⟨g, 3, none⟩ = some (.slice (some ad) l3.length c3) := (blk_cell X0.out 3).trans rfl
       have lX0 : g < wr.heap.size := blk_lt X0.out
       have nX0 : g ≠ wr.heap.size := Nat.ne_of_lt (blk_lt X0.out)
       have cXV_0 : wr.cell? ⟨w.heap.size, 0, none⟩ = some (.int .i64 at_) := (blk_cell XV.out 0).trans rfl
       have cXV_1 : wr.cell? ⟨w.heap.size, 1, none⟩ = some (.int .i64 id) := (blk_cell XV.out 1).trans rfl
       have lXV : w.heap.size < wr.heap.size := blk_lt XV.out
       have nXV : w.heap.size ≠ wr.heap.size := Nat.ne_of_lt (blk_lt XV.out)
       go_wp2_with fail
       clear hq0
       refine (spec_l6Read.at (g := g) k1 a0_0 a0_1 A2 c2 l2 _ c3 l3 at_ id key v1 true _ (Kd.C_below HR2.out HB.out) HC2.out (Kd.C_below HR3.out HB.out) HC3.out HV.out X0).mono ?_
       rintro e u2 ⟨rfl, hb⟩
       clear cX0_0 cX0_1 cX0_2 cX0_3 lX0 nX0 cXV_0 cXV_1 lXV nXV
       have hsz := hb.size
       replace HB := Aside0.mk (show Below w.heap.size w u2 from below_step HB.out hb)
       replace X0 := Aside0.mk (keepB hb X0.out)
       replace XV := Aside0.mk (keepB hb XV.out)
       replace HO := Aside0.mk (Kd.R_below HO.out hb)
       have z1 := Aside0.mk hsz
       clear hsz
       clear hb
       go_wp2_with (go_at_call 110; refine (spec_l1In.calls _ _ _ _ _ (l1In_f _ _ _)).mono ?_; rintro e w' ⟨rfl, hd⟩; obtain ⟨m, rfl⟩ := hd.out; rw [HI2.out])
       go_roundg k1
       case measure => have := HK1.out; omega
       case rel => exact ⟨acc, wrap64 (i + 1), by first | rfl | rw [E9.out], H', ⟨by have := HK1.out; omega⟩, ⟨zr HO⟩, ⟨zq XV⟩, ⟨zb⟩⟩
      | true =>
       rw [if_pos hi2] at H
       have HI2 := Aside0.mk hi2
       clear hi2
       by_cases c5 : acc.length < 8796093022208
       ·rw [if_pos c5] at H
        have H' := Aside0.mk H
        have LM := Aside0.mk c5
        clear H c5
        have cX0_0 : wr.cell? ⟨g, 0, none⟩ = some (.int .i64 a0_0) := (blk_cell X0.out 0).trans rfl
        have cX0_1 : wr.cell? ⟨g, 1, none⟩ = some (.int .i64 a0_1) := (blk_cell X0.out 1).trans rfl
        have cX0_2 : wr.cell? ⟨g, 2, none⟩ = some (.slice A2 l2.length c2) := (blk_cell X0.out 2).trans rfl
        have cX0_3 : wr.cell? ⟨g, 3, none⟩ = some (.slice (some ad) l3.length c3) := (blk_cell X0.out 3).trans rfl
        have lX0 : g < wr.heap.size := blk_lt X0.out
        have nX0 : g ≠ wr.heap.size := Nat.ne_of_lt (blk_lt X0.out)
        have cXV_0 : wr.cell? ⟨w.heap.size, 0, none⟩ = some (.int .i64 at_) := (blk_cell XV.out 0).trans rfl
        have cXV_1 : wr.cell? ⟨w.heap.size, 1, none⟩ = some (.int .i64 id) := (blk_cell XV.out 1).trans rfl
        have lXV : w.heap.size < wr.heap.size := blk_lt XV.out
        have nXV : w.heap.size ≠ wr.heap.size := Nat.ne_of_lt (blk_lt XV.out)
        go_wp2_with fail
        clear hq0
        refine (spec_l6Read.at (g := g) k1 a0_0 a0_1 A2 c2 l2 _ c3 l3 at_ id key v1 true _ (Kd.C_below HR2.out HB.out) HC2.out (Kd.C_below HR3.out HB.out) HC3.out HV.out X0).mono ?_
        rintro e u2 ⟨rfl, hb⟩
        clear cX0_0 cX0_1 cX0_2 cX0_3 lX0 nX0 cXV_0 cXV_1 lXV nXV
        have hsz := hb.size
        replace HB := Aside0.mk (show Below w.heap.size w u2 from below_step HB.out hb)
        replace X0 := Aside0.mk (keepB hb X0.out)
        replace XV := Aside0.mk (keepB hb XV.out)
        replace HO := Aside0.mk (Kd.R_below HO.out hb)
        have z1 := Aside0.mk hsz
        clear hsz
        clear hb
        go_wp2_with (first | (go_at_call 110; refine (spec_l1In.calls _ _ _ _ _ (l1In_f _ _ _)).mono ?_; rintro e w' ⟨rfl, hd⟩; obtain ⟨m, rfl⟩ := hd.out; rw [HI2.out]) | ((with_reducible refine gate_builtin (b := .append) (xs := #[.tmp 46, .tmp 50]) rfl ?_); at_builtin; refine Kd.R_append k105 (w0 := w) w.heap.size rfl (.tmp 46) (.tmp 50) 40 105 (.agg #[(.int .i64 0), (.int .i64 0)]) 16 rfl Try.underlying40 info105 rfl (by decide) (by omega) u9 acc (⟨key, v1⟩ : S105) [.int .i64 key, .int .i64 v1] (fun _ => True) (fun _ => False) rfl (by first | (go_simp; done) | (go_simp; rfl)) ?aP (fun _ hk => hk.elim) ?aF ?aO ?aB ?aS ?aL ?_; (case aP => exact k105_mkM _ _ _ (⟨key, v1⟩ : S105)); (case aB => exact zb); (case aF => exact (fun _ _ => trivial)); (case aO => exact (zr HO)); (case aS => exact (below_size zb)); (case aL => have := LM.out; omega); intro v5_ w5 ho5 hb5 hg5 ha5; have XW := Aside0.mk (blk_grown (g := w.heap.size) (o := Obj.cells #[.int .i64 at_, .int .i64 id] 116) (zq XV) hg5 (Kd.R_ne HO.out XV.out (by decide))); clear HO XV HB; have HO := Aside0.mk ho5; have XV := XW; have HB := Aside0.mk hb5; clear ho5 hb5 hg5 ha5 XW))
        go_roundg k1
        case measure => have := HK1.out; omega
        case rel => exact ⟨acc ++ [(⟨key, v1⟩ : S105)], wrap64 (i + 1), by first | rfl | rw [E9.out], H', ⟨by have := HK1.out; omega⟩, ⟨zr HO⟩, ⟨zq XV⟩, ⟨zb⟩⟩
       exact absurd H (by rw [if_neg c5]; simp)
    exact absurd H (by rw [if_neg p2]; simp)
   rw [if_neg c1] at H
   obtain rfl := Option.some.inj H
   have d1 : decide (i < (l3.length : Int)) = false := decide_eq_false c1
   have cX0_0 : wr.cell? ⟨g, 0, none⟩ = some (.int .i64 a0_0) := (blk_cell X0.out 0).trans rfl
   have cX0_1 : wr.cell? ⟨g, 1, none⟩ = some (.int .i64 a0_1) := (blk_cell X0.out 1).trans rfl
   have cX0_2 : wr.cell? ⟨g, 2, none⟩ = some (.slice A2 l2.length c2) := (blk_cell X0.out 2).trans rfl
   have cX0_3 : wr.cell? ⟨g, 3, none⟩ = some (.slice A3 l3.length c3) := (blk_cell X0.out 3).trans rfl
   have lX0 : g < wr.heap.size := blk_lt X0.out
   have nX0 : g ≠ wr.heap.size := Nat.ne_of_lt (blk_lt X0.out)
   go_wp2_with fail
   go_ret
   exact ⟨_, rfl, HO.out, HB.out⟩
set_option maxHeartbeats 40000000 in
set_option maxRecDepth 100000 in
theorem impl_Engine_scan.calls (k : Nat) (a0_0 : Int) (a0_1 : Int) (A0_2 : Option Addr) (c0_2 : Nat) (l0_2 : List (S83)) (A0_3 : Option Addr) (c0_3 : Nat) (l0_3 : List (S87)) (a1_0 : Int) (a1_1 : Int) (a1_2 : Int) (a1_3 : Int) (A1_4 : Option Addr) (c1_4 : Nat) (l1_4 : List (S96)) (a2 : Int) (a3 : Int) (r : List (S105)) (w : World) (hr0_2 : Kd.C k83 w A0_2 l0_2.length l0_2) (hc0_2 : l0_2.length ≤ c0_2) (hr0_3 : Kd.C k87 w A0_3 l0_3.length l0_3) (hc0_3 : l0_3.length ≤ c0_3) (hr1_4 : Kd.C k96 w A1_4 l1_4.length l1_4) (hc1_4 : l1_4.length ≤ c1_4) (h : impl_Engine_scan.f k a0_0 a0_1 l0_2 l0_3 a1_0 a1_1 a1_2 a1_3 l1_4 a2 a3 = some r) :
 Calls Try.prog 104 #[.agg #[.int .i64 a0_0, .int .i64 a0_1, .slice A0_2 l0_2.length c0_2, .slice A0_3 l0_3.length c0_3], .agg #[.int .i64 a1_0, .int .i64 a1_1, .int .i64 a1_2, .int .i64 a1_3, .slice A1_4 l1_4.length c1_4], .int .i64 a2, .int .i64 a3] w fun e w' => ∃ v0_ : Value, e = .returned (v0_) ∧ Kd.R k105 105 w' w.heap.size (fun _ => True) v0_ r ∧ Below w.heap.size w w' := by
 have hu31 := Try.underlying31
 have hu83 := Try.underlying83
 have hu87 := Try.underlying87
 have hu48 := Try.underlying48
 have hu105 := Try.underlying105
 have HR0_2 := Aside0.mk hr0_2
 have HC0_2 := Aside0.mk hc0_2
 clear hr0_2 hc0_2
 have HR0_3 := Aside0.mk hr0_3
 have HC0_3 := Aside0.mk hc0_3
 clear hr0_3 hc0_3
 have HR1_4 := Aside0.mk hr1_4
 have HC1_4 := Aside0.mk hc1_4
 clear hr1_4 hc1_4
 have HB := Aside0.mk (Below.refl w.heap.size w)
 have H : (impl_Engine_scan.l0 k a2 a3 (([] : List (S105))) l0_3 (l0_3.length : Int) 0 a1_0 a1_1 a1_2 a1_3 l1_4) = some r := h
 clear h
 obtain ⟨y47, hy47⟩ : ∃ y_ : List (S105), y_ = (([] : List (S105))) := ⟨_, rfl⟩
 replace H : (impl_Engine_scan.l0 k a2 a3 y47 l0_3 (l0_3.length : Int) 0 a1_0 a1_1 a1_2 a1_3 l1_4) = some r := by first | (rw [hy47]; with_reducible exact H) | (have H2_ := (Option.bind_some _ _).symm.trans H; rw [hy47]; with_reducible exact H2_) | (have H2_ := (Option.bind_some _ _).symm.trans H; with_reducible exact H2_) | with_reducible exact H | (rw [hy47]; exact H) | exact H
 have Ny47 := Aside0.mk hy47
 clear hy47
 have H' := Aside0.mk H
 clear H
 go_enter Try.func104, Try.ntmps104
 go_wp2_with (first | ((with_reducible refine gate_dst (N := 4) rfl ?_); refine zE 4 31 #[.int .i64 a0_0, .int .i64 a0_1, .slice A0_2 l0_2.length c0_2, .slice A0_3 l0_3.length c0_3] ?_; intro gb41 hg w5 hbox hb; have BK41 := Aside0.mk hbox; have GW41 := Aside0.mk (zh hg : w.heap.size ≤ gb41); have GE41 := GW41; replace HB := Aside0.mk (below_step zb hb); clear hb hbox hg) | ((with_reducible refine gate_dst (N := 5) rfl ?_); refine zE 5 83 #[.int .i64 a1_0, .int .i64 a1_1, .int .i64 a1_2, .int .i64 a1_3, .slice A1_4 l1_4.length c1_4] ?_; intro gb38 hg w6 hbox hb; have BK38 := Aside0.mk hbox; have GW38 := Aside0.mk (zh hg : w.heap.size ≤ gb38); have NB499_500 := zl BK41 hg; have NB500_499 := zL BK41 hg; have GE38 := GW38; replace BK41 := zw BK41 hb; replace HB := Aside0.mk (below_step zb hb); clear hb hbox hg) | ((with_reducible refine gate_dst (N := 13) rfl ?_); refine Kd.R_lit k105 _ 105 ?hg (N := 13) ?hd (xs := ([] : List (S105))) (inner := []) (ok := fun _ => True) (okp := fun _ => True) ?hr ?hp (fun _ hk => hk) trivial (Below.refl _ _) (Nat.le_refl _) (by simp) ?_; (case hd => rfl); (case hg => rfl); (case hr => first | (go_simp; done) | (go_simp; rfl)); (case hp => exact (Reps.none _ _)); intro v65 w7 ho8 hb hg_ hnew_; clear hg_ hnew_; (first | rw [← Ny47.out] at ho8 | (simp only [Int.reduceToNat] at ho8; rw [← Ny47.out] at ho8)); have HO62 := Aside0.mk (Kd.R_lower ho8 (below_size zb)); replace BK41 := zw BK41 hb; replace BK38 := zw BK38 hb; replace HB := Aside0.mk (below_step zb hb); clear hb ho8; have hnb9 := NB499_500.out; have hnc9 := NB500_499.out; obtain ⟨z10_0, z10_1, z10_2, z10_3, j10_0, j10_1, j10_2, j10_3⟩ := Lv.blks4 BK41.out))
 go_loopg [9, 17] k (fun kq v9 v17 w' => ∃ (x9_1 : List (S105)) (x17_1 : Int), v17 = .int .i64 x17_1 ∧ Aside0 (impl_Engine_scan.l0 kq a2 a3 x9_1 l0_3 (l0_3.length : Int) x17_1 a1_0 a1_1 a1_2 a1_3 l1_4 = some r) ∧ Aside0 (kq ≤ k) ∧ Aside0 (Kd.R k105 105 w' w.heap.size (fun _ => True) v9 x9_1) ∧ Aside0 (w'.heap[gb41]? = some (.cells #[.int .i64 a0_0, .int .i64 a0_1, (.slice A0_2 l0_2.length c0_2), (.slice A0_3 l0_3.length c0_3)] 31 (0, 0))) ∧ Aside0 (w'.heap[gb38]? = some (.cells #[.int .i64 a1_0, .int .i64 a1_1, .int .i64 a1_2, .int .i64 a1_3, (.slice A1_4 l1_4.length c1_4)] 83 (0, 0))) ∧ Aside0 (Below w.heap.size w w'))
 case atStart => exact ⟨(y47), (0), zs, H', ⟨Nat.le_refl _⟩, ⟨zr HO62⟩, ⟨zq BK41⟩, ⟨zq BK38⟩, ⟨zb⟩⟩
 case round =>
  clear H'
  try clear c1
  try clear p2
  try clear c9
  try clear c10
  try clear z10_0 z10_1 z10_2 z10_3 j10_0 j10_1 j10_2 j10_3
  obtain ⟨x9_1, x17_1, rfl, HA, HK1, HO_9, BK41, BK38, HB⟩ := hrel
  cases gk with
  | zero => exact absurd HA.out (by simp [impl_Engine_scan.l0])
  | succ k1 =>
   have H := HA.out
   clear HA
   simp only [impl_Engine_scan.l0] at H
   by_cases c11 : x17_1 < (l0_3.length : Int)
   ·rw [if_pos c11] at H
    have c11b0 : decide (x17_1 < (l0_3.length : Int)) = true := decide_eq_true c11
    clear c11
    by_cases c12 : 0 ≤ x17_1
    ·rw [if_pos c12] at H
     have c12b0 : decide (0 ≤ x17_1) = true := decide_eq_true c12
     clear c12
     by_cases c13 : x17_1 < (l0_3.length : Int)
     ·rw [if_pos c13] at H
      have c13b0 : decide (x17_1 < (l0_3.length : Int)) = true := decide_eq_true c13
      clear c13
      replace H := Option.bind_eq_some_iff.mp H
      obtain ⟨⟨t49, t56⟩, A59, H⟩ := H
      replace H : ((impl_seenValue.f ((rd_T87 l0_3 x17_1).f1) t49 t56).bind fun bt45 => (if bt45.1 = 0 then ((impl_within.f ((rd_T87 l0_3 x17_1).f0) a2 a3).bind fun t58 => (if t58 = true then (if x9_1.length < 8796093022208 then (impl_Engine_scan.l0 k1 a2 a3 (x9_1 ++ [(⟨(rd_T87 l0_3 x17_1).f0, bt45.2⟩ : S105)]) l0_3 (l0_3.length : Int) (wrap64 (x17_1 + 1)) a1_0 a1_1 a1_2 a1_3 l1_4) else (none)) else (impl_Engine_scan.l0 k1 a2 a3 x9_1 l0_3 (l0_3.length : Int) (wrap64 (x17_1 + 1)) a1_0 a1_1 a1_2 a1_3 l1_4))) else (impl_Engine_scan.l0 k1 a2 a3 x9_1 l0_3 (l0_3.length : Int) (wrap64 (x17_1 + 1)) a1_0 a1_1 a1_2 a1_3 l1_4))) = some r := H
      have A14 := Aside0.mk A59
      clear A59
      replace H := Option.bind_eq_some_iff.mp H
      obtain ⟨⟨t45, t46⟩, A60, H⟩ := H
      replace H : (if t45 = 0 then ((impl_within.f ((rd_T87 l0_3 x17_1).f0) a2 a3).bind fun t58 => (if t58 = true then (if x9_1.length < 8796093022208 then (impl_Engine_scan.l0 k1 a2 a3 (x9_1 ++ [(⟨(rd_T87 l0_3 x17_1).f0, t46⟩ : S105)]) l0_3 (l0_3.length : Int) (wrap64 (x17_1 + 1)) a1_0 a1_1 a1_2 a1_3 l1_4) else (none)) else (impl_Engine_scan.l0 k1 a2 a3 x9_1 l0_3 (l0_3.length : Int) (wrap64 (x17_1 + 1)) a1_0 a1_1 a1_2 a1_3 l1_4))) else (impl_Engine_scan.l0 k1 a2 a3 x9_1 l0_3 (l0_3.length : Int) (wrap64 (x17_1 + 1)) a1_0 a1_1 a1_2 a1_3 l1_4)) = some r := H
      have A15 := Aside0.mk A60
      clear A60
      have HX_ := Aside0.mk H
      clear H
      have p504 : 0 ≤ (x17_1 : Int) := of_decide_eq_true za
      have q44 : x17_1 < (l0_3.length : Int) := of_decide_eq_true za
      obtain ⟨ad44, A44_1, c44_1, e504, hx44_0, hx44_1, hl44_1, hi504_1⟩ := at_T87 HR0_3.out x17_1 p504 q44
      cases e504
      replace hx44_0 := zx HB hx44_0
      replace hx44_1 := zx HB hx44_1
      have HR504_1 := Aside0.mk hi504_1
      have HC504_1 := Aside0.mk hl44_1
      clear hi504_1 hl44_1
      replace p504 := eq_true p504
      replace q44 := eq_true q44
      try go_wp2_with (first | ((with_reducible refine gate_dst (N := 11) rfl ?_); refine zE 11 87 #[.int .i64 0, .slice none 0 0] ?_; intro gb39 hg w20 hbox hb; have BK39 := Aside0.mk hbox; have GW39 := Aside0.mk (zh hg : w.heap.size ≤ gb39); have NB499_505 := zl BK41 hg; have NB505_499 := zL BK41 hg; have NB500_505 := zl BK38 hg; have NB505_500 := zL BK38 hg; have GE39 := GW39; replace HO_9 := Aside0.mk (Kd.R_below (zr HO_9) hb); replace BK41 := zw BK41 hb; replace BK38 := zw BK38 hb; replace HB := Aside0.mk (below_step zb hb); clear hb hbox hg; have hnb21 := NB505_499.out; have hnc21 := NB499_505.out; have hnb22 := NB505_500.out; have hnc22 := NB500_505.out; obtain ⟨z23_0, z23_1, j23_0, j23_1⟩ := Lv.blks2 BK39.out))
      have n0_ : Aside0 (Kd.R k105 105 ((w20.setCell ⟨gb39, 0, none⟩ (.int .i64 ((rd_T87 l0_3 x17_1).f0))).setCell ⟨gb39, 1, none⟩ (.slice A44_1 ((rd_T87 l0_3 x17_1).f1).length c44_1)) w.heap.size (fun _ => True) u9 x9_1) := ⟨by refine zR ?_; exact Kd.R_mono (Kd.R_far (p := ⟨gb39, 1, none⟩) (Kd.R_far (p := ⟨gb39, 0, none⟩) (Kd.R_types HO_9.out BK39.out (by decide)) (fun _ hk => hk.2) (.int .i64 ((rd_T87 l0_3 x17_1).f0))) (fun _ hk => hk.2) (.slice A44_1 ((rd_T87 l0_3 x17_1).f1).length c44_1)) (fun _ hk => trivial)⟩
      have n1_ : Aside0 (((w20.setCell ⟨gb39, 0, none⟩ (.int .i64 ((rd_T87 l0_3 x17_1).f0))).setCell ⟨gb39, 1, none⟩ (.slice A44_1 ((rd_T87 l0_3 x17_1).f1).length c44_1)).heap[gb41]? = some (.cells #[.int .i64 a0_0, .int .i64 a0_1, .slice A0_2 l0_2.length c0_2, .slice (some ad44) l0_3.length c0_3] 31 (0, 0))) := ⟨by refine zQ ?_; refine blk_far ?_ NB499_505.out _; refine zQ ?_; refine blk_far ?_ NB499_505.out _; refine zQ ?_; exact BK41.out⟩
      have n2_ : Aside0 (((w20.setCell ⟨gb39, 0, none⟩ (.int .i64 ((rd_T87 l0_3 x17_1).f0))).setCell ⟨gb39, 1, none⟩ (.slice A44_1 ((rd_T87 l0_3 x17_1).f1).length c44_1)).heap[gb38]? = some (.cells #[.int .i64 a1_0, .int .i64 a1_1, .int .i64 a1_2, .int .i64 a1_3, .slice A1_4 l1_4.length c1_4] 83 (0, 0))) := ⟨by refine zQ ?_; refine blk_far ?_ NB500_505.out _; refine zQ ?_; refine blk_far ?_ NB500_505.out _; refine zQ ?_; exact BK38.out⟩
      have n3_ : Aside0 (((w20.setCell ⟨gb39, 0, none⟩ (.int .i64 ((rd_T87 l0_3 x17_1).f0))).setCell ⟨gb39, 1, none⟩ (.slice A44_1 ((rd_T87 l0_3 x17_1).f1).length c44_1)).heap[gb39]? = some (.cells #[.int .i64 ((rd_T87 l0_3 x17_1).f0), .slice A44_1 ((rd_T87 l0_3 x17_1).f1).length c44_1] 87 (0, 0))) := ⟨by refine zQ ?_; refine blk_put (cs := #[.int .i64 ((rd_T87 l0_3 x17_1).f0), .slice none 0 0]) ?_ 1 _ rfl; refine zQ ?_; refine blk_put (cs := #[.int .i64 0, .slice none 0 0]) ?_ 0 _ rfl; refine zQ ?_; exact BK39.out⟩
      have n4_ : Aside0 (Below w.heap.size w ((w20.setCell ⟨gb39, 0, none⟩ (.int .i64 ((rd_T87 l0_3 x17_1).f0))).setCell ⟨gb39, 1, none⟩ (.slice A44_1 ((rd_T87 l0_3 x17_1).f1).length c44_1))) := ⟨zb⟩
      (try clear HO_9)
      (try clear BK41)
      (try clear BK38)
      (try clear BK39)
      (try clear HB)
      generalize ((w20.setCell ⟨gb39, 0, none⟩ (.int .i64 ((rd_T87 l0_3 x17_1).f0))).setCell ⟨gb39, 1, none⟩ (.slice A44_1 ((rd_T87 l0_3 x17_1).f1).length c44_1)) = w24 at n0_ n1_ n2_ n3_ n4_ ⊢
      have HO_9 := n0_
      have BK41 := n1_
      have BK38 := n2_
      have BK39 := n3_
      have HB := n4_
      clear n0_ n1_ n2_ n3_ n4_
      replace HO_9 := Aside0.mk (Kd.R_drew HO_9.out)
      replace BK41 := Aside0.mk (blk_drew BK41.out)
      replace BK38 := Aside0.mk (blk_drew BK38.out)
      replace BK39 := Aside0.mk (blk_drew BK39.out)
      replace HB := Aside0.mk (below_drew1 HB.out)
      refine start_ (n := 7) (S := fun w' => w'.cell? ⟨gb39, 0, none⟩ = some (.int .i64 ((rd_T87 l0_3 x17_1).f0)) ∧ w'.cell? ⟨gb39, 1, none⟩ = some (.slice A44_1 ((rd_T87 l0_3 x17_1).f1).length c44_1) ∧ w'.cell? ⟨gb38, 0, none⟩ = some (.int .i64 a1_0) ∧ w'.cell? ⟨gb38, 1, none⟩ = some (.int .i64 a1_1) ∧ w'.cell? ⟨gb38, 2, none⟩ = some (.int .i64 a1_2) ∧ w'.cell? ⟨gb38, 3, none⟩ = some (.int .i64 a1_3) ∧ w'.cell? ⟨gb38, 4, none⟩ = some (.slice A1_4 l1_4.length c1_4)) (ds := []) #[Z, Z, Z, Z, Z, Z, Z] (by kernel_rfl) rfl rfl ⟨(blk_cell BK39.out 0).trans rfl, (blk_cell BK39.out 1).trans rfl, (blk_cell BK38.out 0).trans rfl, (blk_cell BK38.out 1).trans rfl, (blk_cell BK38.out 2).trans rfl, (blk_cell BK38.out 3).trans rfl, (blk_cell BK38.out 4).trans rfl⟩ (fun hHeld => ?_)
      generalize w24.drew = w25 at HO_9 BK41 BK38 BK39 HB hHeld ⊢
      refine zp 0 21 ?_; refine zt 1 22 ?_; refine zt 2 23 ?_
      refine join_ (σ := Nat) 1 #[Y, Y, Y, Y, Y, Y, Z] (fun s_ => [(24, .agg #[.int .i64 t49, .int .i64 t56]), (25, .agg #[.int .i64 t45, .int .i64 t46]), (12, .pointer (some ⟨s_, 0, none⟩))]) (fun s_ w' => (w'.cell? ⟨gb39, 0, none⟩ = some (.int .i64 ((rd_T87 l0_3 x17_1).f0)) ∧ w'.cell? ⟨gb39, 1, none⟩ = some (.slice A44_1 ((rd_T87 l0_3 x17_1).f1).length c44_1) ∧ w'.cell? ⟨gb38, 0, none⟩ = some (.int .i64 a1_0) ∧ w'.cell? ⟨gb38, 1, none⟩ = some (.int .i64 a1_1) ∧ w'.cell? ⟨gb38, 2, none⟩ = some (.int .i64 a1_2) ∧ w'.cell? ⟨gb38, 3, none⟩ = some (.int .i64 a1_3) ∧ w'.cell? ⟨gb38, 4, none⟩ = some (.slice A1_4 l1_4.length c1_4)) ∧ (Kd.R k105 105 w' w.heap.size (fun _ => True) u9 x9_1) ∧ (w'.heap[gb41]? = some (.cells #[.int .i64 a0_0, .int .i64 a0_1, .slice A0_2 l0_2.length c0_2, .slice (some ad44) l0_3.length c0_3] 31 (0, 0))) ∧ (w'.heap[gb38]? = some (.cells #[.int .i64 a1_0, .int .i64 a1_1, .int .i64 a1_2, .int .i64 a1_3, .slice A1_4 l1_4.length c1_4] 83 (0, 0))) ∧ (w'.heap[gb39]? = some (.cells #[.int .i64 ((rd_T87 l0_3 x17_1).f0), .slice A44_1 ((rd_T87 l0_3 x17_1).f1).length c44_1] 87 (0, 0))) ∧ (w'.heap[s_]? = some (.cells #[.int .i64 0, .int .i64 0] 48 (0, 0))) ∧ (w.heap.size ≤ s_) ∧ (w.heap.size ≤ s_) ∧ (gb41 ≠ s_) ∧ (s_ ≠ gb41) ∧ (gb38 ≠ s_) ∧ (s_ ≠ gb38) ∧ (gb39 ≠ s_) ∧ (s_ ≠ gb39) ∧ (Below w.heap.size w w')) ?_ ?_
      rotate_left
      ·intro hCont
       refine two_ (i := 3) (j := 5) (Ni := some 24) (Nj := some 12) #[Y, Y, Y, Y, Z, Z, Z] #[Y, Y, Y, Z, Z, Y, Z] rfl rfl rfl rfl (by kernel_rfl) (by decide) (by decide) (fun K hK => ?_) (fun K hK => ?_)
       ·skip
        refine goes_ Try.func84 (by kernel_rfl) rfl #[.agg #[.int .i64 a1_0, .int .i64 a1_1, .int .i64 a1_2, .int .i64 a1_3, .slice A1_4 l1_4.length c1_4]] (by rfl) rfl rfl zm ?_
        with_reducible refine (impl_Txn_view.calls a1_0 a1_1 a1_2 a1_3 _ _ l1_4 t49 t56 _ ?side1 ?side2 A14.out).mono ?_
        (case side1 => exact zc (Kd.C_below HR1_4.out HB.out))
        (case side2 => exact HC1_4.out)
        rintro e w26 ⟨rfl, hb⟩
        refine ⟨_, rfl, ?_⟩
        replace HO_9 := Aside0.mk (Kd.R_below (zr HO_9) hb)
        replace BK41 := zw BK41 hb
        replace BK38 := zw BK38 hb
        replace BK39 := zw BK39 hb
        replace HB := Aside0.mk (below_step zb hb)
        (try clear hb)
        (try clear hb2)
        (try clear hk)
        (try clear hi)
        refine hK.out _ _ ⟨(blk_cell BK39.out 0).trans rfl, (blk_cell BK39.out 1).trans rfl, (blk_cell BK38.out 0).trans rfl, (blk_cell BK38.out 1).trans rfl, (blk_cell BK38.out 2).trans rfl, (blk_cell BK38.out 3).trans rfl, (blk_cell BK38.out 4).trans rfl⟩ (fun hHeld => ?_)
        clear hK K
        refine norm_ (a' := ?_) ?_ ?_
        rotate_left
        ·show Act.put _ (some 24) _ = _
         simp only [Act.put, List.setIfInBounds_toArray, List.set_cons_zero, List.set_cons_succ, i64_w, i32_w]
         rfl
        refine two_ (i := 4) (j := 5) (Ni := some 25) (Nj := some 12) #[Y, Y, Y, Y, Y, Z, Z] #[Y, Y, Y, Y, Z, Y, Z] rfl rfl rfl rfl (by kernel_rfl) (by decide) (by decide) (fun K hK => ?_) (fun K hK => ?_)
        ·skip
         refine goes_ Try.func83 (by kernel_rfl) rfl #[.slice A44_1 ((rd_T87 l0_3 x17_1).f1).length c44_1, .agg #[.int .i64 t49, .int .i64 t56]] (by rfl) rfl rfl zm ?_
         with_reducible refine (impl_seenValue.calls _ _ ((rd_T87 l0_3 x17_1).f1) t49 t56 t45 t46 _ ?side1 ?side2 A15.out).mono ?_
         (case side1 => exact zc (Kd.C_below HR504_1.out HB.out))
         (case side2 => exact HC504_1.out)
         rintro e w27 ⟨rfl, hb⟩
         refine ⟨_, rfl, ?_⟩
         replace HO_9 := Aside0.mk (Kd.R_below (zr HO_9) hb)
         replace BK41 := zw BK41 hb
         replace BK38 := zw BK38 hb
         replace BK39 := zw BK39 hb
         replace HB := Aside0.mk (below_step zb hb)
         (try clear hb)
         (try clear hb2)
         (try clear hk)
         (try clear hi)
         refine hK.out _ _ ⟨(blk_cell BK39.out 0).trans rfl, (blk_cell BK39.out 1).trans rfl, (blk_cell BK38.out 0).trans rfl, (blk_cell BK38.out 1).trans rfl, (blk_cell BK38.out 2).trans rfl, (blk_cell BK38.out 3).trans rfl, (blk_cell BK38.out 4).trans rfl⟩ (fun hHeld => ?_)
         clear hK K
         refine norm_ (a' := ?_) ?_ ?_
         rotate_left
         ·show Act.put _ (some 25) _ = _
          simp only [Act.put, List.setIfInBounds_toArray, List.set_cons_zero, List.set_cons_succ, i64_w, i32_w]
          rfl
         refine one_ (i := 5) (N := some 12) #[Y, Y, Y, Y, Y, Y, Z] rfl rfl (by kernel_rfl) (by decide) (fun K hK => ?_)
         refine box_step ?hg (N := 12) ?hd (cs := #[.int .i64 0, .int .i64 0]) (t := 48) ?hr ?_; (case hd => rfl); (case hg => rfl); (case hr => first | (go_simp; done) | (go_simp; rfl))
         intro gb43 hg w28 hbox hb
         have BK43 := Aside0.mk hbox
         have GW43 := Aside0.mk (zh hg : w.heap.size ≤ gb43)
         have GE43 := Aside0.mk (zh hg : w.heap.size ≤ gb43)
         have NB499_510 := zl BK41 hg
         have NB510_499 := zL BK41 hg
         have NB500_510 := zl BK38 hg
         have NB510_500 := zL BK38 hg
         have NB505_510 := zl BK39 hg
         have NB510_505 := zL BK39 hg
         replace HO_9 := Aside0.mk (Kd.R_below (zr HO_9) hb)
         replace BK41 := zw BK41 hb
         replace BK38 := zw BK38 hb
         replace BK39 := zw BK39 hb
         replace HB := Aside0.mk (below_step zb hb)
         clear hb hbox hg
         refine hK.out _ _ ⟨(blk_cell BK39.out 0).trans rfl, (blk_cell BK39.out 1).trans rfl, (blk_cell BK38.out 0).trans rfl, (blk_cell BK38.out 1).trans rfl, (blk_cell BK38.out 2).trans rfl, (blk_cell BK38.out 3).trans rfl, (blk_cell BK38.out 4).trans rfl⟩ (fun hHeld => ?_)
         clear hK K
         refine norm_ (a' := ?_) ?_ ?_
         rotate_left
         ·show Act.put _ (some 12) _ = _
          simp only [Act.put, List.setIfInBounds_toArray, List.set_cons_zero, List.set_cons_succ, i64_w, i32_w]
          rfl
         exact norm_ (by simp only [putAll, Act.put, List.setIfInBounds_toArray, List.set_cons_zero, List.set_cons_succ]) (hCont (gb43) _ ⟨hHeld, (zr HO_9), zk, zk, zk, zk, GW43.out, GE43.out, NB499_510.out, NB510_499.out, NB500_510.out, NB510_500.out, NB505_510.out, NB510_505.out, zb⟩)
        skip
        refine box_step ?hg (N := 12) ?hd (cs := #[.int .i64 0, .int .i64 0]) (t := 48) ?hr ?_; (case hd => rfl); (case hg => rfl); (case hr => first | (go_simp; done) | (go_simp; rfl))
        intro gb43 hg w27 hbox hb
        have BK43 := Aside0.mk hbox
        have GW43 := Aside0.mk (zh hg : w.heap.size ≤ gb43)
        have GE43 := Aside0.mk (zh hg : w.heap.size ≤ gb43)
        have NB499_510 := zl BK41 hg
        have NB510_499 := zL BK41 hg
        have NB500_510 := zl BK38 hg
        have NB510_500 := zL BK38 hg
        have NB505_510 := zl BK39 hg
        have NB510_505 := zL BK39 hg
        replace HO_9 := Aside0.mk (Kd.R_below (zr HO_9) hb)
        replace BK41 := zw BK41 hb
        replace BK38 := zw BK38 hb
        replace BK39 := zw BK39 hb
        replace HB := Aside0.mk (below_step zb hb)
        clear hb hbox hg
        refine hK.out _ _ ⟨(blk_cell BK39.out 0).trans rfl, (blk_cell BK39.out 1).trans rfl, (blk_cell BK38.out 0).trans rfl, (blk_cell BK38.out 1).trans rfl, (blk_cell BK38.out 2).trans rfl, (blk_cell BK38.out 3).trans rfl, (blk_cell BK38.out 4).trans rfl⟩ (fun hHeld => ?_)
        clear hK K
        refine norm_ (a' := ?_) ?_ ?_
        rotate_left
        ·show Act.put _ (some 12) _ = _
         simp only [Act.put, List.setIfInBounds_toArray, List.set_cons_zero, List.set_cons_succ, i64_w, i32_w]
         rfl
        refine one_ (i := 4) (N := some 25) #[Y, Y, Y, Y, Y, Y, Z] rfl rfl (by kernel_rfl) (by decide) (fun K hK => ?_)
        refine goes_ Try.func83 (by kernel_rfl) rfl #[.slice A44_1 ((rd_T87 l0_3 x17_1).f1).length c44_1, .agg #[.int .i64 t49, .int .i64 t56]] (by rfl) rfl rfl zm ?_
        with_reducible refine (impl_seenValue.calls _ _ ((rd_T87 l0_3 x17_1).f1) t49 t56 t45 t46 _ ?side1 ?side2 A15.out).mono ?_
        (case side1 => exact zc (Kd.C_below HR504_1.out HB.out))
        (case side2 => exact HC504_1.out)
        rintro e w28 ⟨rfl, hb⟩
        refine ⟨_, rfl, ?_⟩
        replace HO_9 := Aside0.mk (Kd.R_below (zr HO_9) hb)
        replace BK41 := zw BK41 hb
        replace BK38 := zw BK38 hb
        replace BK39 := zw BK39 hb
        replace BK43 := zw BK43 hb
        replace HB := Aside0.mk (below_step zb hb)
        (try clear hb)
        (try clear hb2)
        (try clear hk)
        (try clear hi)
        refine hK.out _ _ ⟨(blk_cell BK39.out 0).trans rfl, (blk_cell BK39.out 1).trans rfl, (blk_cell BK38.out 0).trans rfl, (blk_cell BK38.out 1).trans rfl, (blk_cell BK38.out 2).trans rfl, (blk_cell BK38.out 3).trans rfl, (blk_cell BK38.out 4).trans rfl⟩ (fun hHeld => ?_)
        clear hK K
        refine norm_ (a' := ?_) ?_ ?_
        rotate_left
        ·show Act.put _ (some 25) _ = _
         simp only [Act.put, List.setIfInBounds_toArray, List.set_cons_zero, List.set_cons_succ, i64_w, i32_w]
         rfl
        exact norm_ (by simp only [putAll, Act.put, List.setIfInBounds_toArray, List.set_cons_zero, List.set_cons_succ]) (hCont (gb43) _ ⟨hHeld, (zr HO_9), zk, zk, zk, zk, GW43.out, GE43.out, NB499_510.out, NB510_499.out, NB500_510.out, NB510_500.out, NB505_510.out, NB510_505.out, zb⟩)
       skip
       refine box_step ?hg (N := 12) ?hd (cs := #[.int .i64 0, .int .i64 0]) (t := 48) ?hr ?_; (case hd => rfl); (case hg => rfl); (case hr => first | (go_simp; done) | (go_simp; rfl))
       intro gb43 hg w26 hbox hb
       have BK43 := Aside0.mk hbox
       have GW43 := Aside0.mk (zh hg : w.heap.size ≤ gb43)
       have GE43 := Aside0.mk (zh hg : w.heap.size ≤ gb43)
       have NB499_510 := zl BK41 hg
       have NB510_499 := zL BK41 hg
       have NB500_510 := zl BK38 hg
       have NB510_500 := zL BK38 hg
       have NB505_510 := zl BK39 hg
       have NB510_505 := zL BK39 hg
       replace HO_9 := Aside0.mk (Kd.R_below (zr HO_9) hb)
       replace BK41 := zw BK41 hb
       replace BK38 := zw BK38 hb
       replace BK39 := zw BK39 hb
       replace HB := Aside0.mk (below_step zb hb)
       clear hb hbox hg
       refine hK.out _ _ ⟨(blk_cell BK39.out 0).trans rfl, (blk_cell BK39.out 1).trans rfl, (blk_cell BK38.out 0).trans rfl, (blk_cell BK38.out 1).trans rfl, (blk_cell BK38.out 2).trans rfl, (blk_cell BK38.out 3).trans rfl, (blk_cell BK38.out 4).trans rfl⟩ (fun hHeld => ?_)
       clear hK K
       refine norm_ (a' := ?_) ?_ ?_
       rotate_left
       ·show Act.put _ (some 12) _ = _
        simp only [Act.put, List.setIfInBounds_toArray, List.set_cons_zero, List.set_cons_succ, i64_w, i32_w]
        rfl
       refine one_ (i := 3) (N := some 24) #[Y, Y, Y, Y, Z, Y, Z] rfl rfl (by kernel_rfl) (by decide) (fun K hK => ?_)
       refine goes_ Try.func84 (by kernel_rfl) rfl #[.agg #[.int .i64 a1_0, .int .i64 a1_1, .int .i64 a1_2, .int .i64 a1_3, .slice A1_4 l1_4.length c1_4]] (by rfl) rfl rfl zm ?_
       with_reducible refine (impl_Txn_view.calls a1_0 a1_1 a1_2 a1_3 _ _ l1_4 t49 t56 _ ?side1 ?side2 A14.out).mono ?_
       (case side1 => exact zc (Kd.C_below HR1_4.out HB.out))
       (case side2 => exact HC1_4.out)
       rintro e w27 ⟨rfl, hb⟩
       refine ⟨_, rfl, ?_⟩
       replace HO_9 := Aside0.mk (Kd.R_below (zr HO_9) hb)
       replace BK41 := zw BK41 hb
       replace BK38 := zw BK38 hb
       replace BK39 := zw BK39 hb
       replace BK43 := zw BK43 hb
       replace HB := Aside0.mk (below_step zb hb)
       (try clear hb)
       (try clear hb2)
       (try clear hk)
       (try clear hi)
       refine hK.out _ _ ⟨(blk_cell BK39.out 0).trans rfl, (blk_cell BK39.out 1).trans rfl, (blk_cell BK38.out 0).trans rfl, (blk_cell BK38.out 1).trans rfl, (blk_cell BK38.out 2).trans rfl, (blk_cell BK38.out 3).trans rfl, (blk_cell BK38.out 4).trans rfl⟩ (fun hHeld => ?_)
       clear hK K
       refine norm_ (a' := ?_) ?_ ?_
       rotate_left
       ·show Act.put _ (some 24) _ = _
        simp only [Act.put, List.setIfInBounds_toArray, List.set_cons_zero, List.set_cons_succ, i64_w, i32_w]
        rfl
       refine one_ (i := 4) (N := some 25) #[Y, Y, Y, Y, Y, Y, Z] rfl rfl (by kernel_rfl) (by decide) (fun K hK => ?_)
       refine goes_ Try.func83 (by kernel_rfl) rfl #[.slice A44_1 ((rd_T87 l0_3 x17_1).f1).length c44_1, .agg #[.int .i64 t49, .int .i64 t56]] (by rfl) rfl rfl zm ?_
       with_reducible refine (impl_seenValue.calls _ _ ((rd_T87 l0_3 x17_1).f1) t49 t56 t45 t46 _ ?side1 ?side2 A15.out).mono ?_
       (case side1 => exact zc (Kd.C_below HR504_1.out HB.out))
       (case side2 => exact HC504_1.out)
       rintro e w28 ⟨rfl, hb⟩
       refine ⟨_, rfl, ?_⟩
       replace HO_9 := Aside0.mk (Kd.R_below (zr HO_9) hb)
       replace BK41 := zw BK41 hb
       replace BK38 := zw BK38 hb
       replace BK39 := zw BK39 hb
       replace BK43 := zw BK43 hb
       replace HB := Aside0.mk (below_step zb hb)
       (try clear hb)
       (try clear hb2)
       (try clear hk)
       (try clear hi)
       refine hK.out _ _ ⟨(blk_cell BK39.out 0).trans rfl, (blk_cell BK39.out 1).trans rfl, (blk_cell BK38.out 0).trans rfl, (blk_cell BK38.out 1).trans rfl, (blk_cell BK38.out 2).trans rfl, (blk_cell BK38.out 3).trans rfl, (blk_cell BK38.out 4).trans rfl⟩ (fun hHeld => ?_)
       clear hK K
       refine norm_ (a' := ?_) ?_ ?_
       rotate_left
       ·show Act.put _ (some 25) _ = _
        simp only [Act.put, List.setIfInBounds_toArray, List.set_cons_zero, List.set_cons_succ, i64_w, i32_w]
        rfl
       exact norm_ (by simp only [putAll, Act.put, List.setIfInBounds_toArray, List.set_cons_zero, List.set_cons_succ]) (hCont (gb43) _ ⟨hHeld, (zr HO_9), zk, zk, zk, zk, GW43.out, GE43.out, NB499_510.out, NB510_499.out, NB500_510.out, NB510_500.out, NB505_510.out, NB510_505.out, zb⟩)
      rintro gb43 w29 ⟨hS_, h0_, h1_, h2_, h3_, h4_, h5_, h6_, h7_, h8_, h9_, h10_, h11_, h12_, h13_⟩
      have n0_ : Aside0 (Kd.R k105 105 w29 w.heap.size (fun _ => True) u9 x9_1) := ⟨h0_⟩
      have n1_ : Aside0 (w29.heap[gb41]? = some (.cells #[.int .i64 a0_0, .int .i64 a0_1, .slice A0_2 l0_2.length c0_2, .slice (some ad44) l0_3.length c0_3] 31 (0, 0))) := ⟨h1_⟩
      have n2_ : Aside0 (w29.heap[gb38]? = some (.cells #[.int .i64 a1_0, .int .i64 a1_1, .int .i64 a1_2, .int .i64 a1_3, .slice A1_4 l1_4.length c1_4] 83 (0, 0))) := ⟨h2_⟩
      have n3_ : Aside0 (w29.heap[gb39]? = some (.cells #[.int .i64 ((rd_T87 l0_3 x17_1).f0), .slice A44_1 ((rd_T87 l0_3 x17_1).f1).length c44_1] 87 (0, 0))) := ⟨h3_⟩
      have n4_ : Aside0 (w29.heap[gb43]? = some (.cells #[.int .i64 0, .int .i64 0] 48 (0, 0))) := ⟨h4_⟩
      have n5_ : Aside0 (w.heap.size ≤ gb43) := ⟨h5_⟩
      have n6_ : Aside0 (w.heap.size ≤ gb43) := ⟨h6_⟩
      have n7_ : Aside0 (gb41 ≠ gb43) := ⟨h7_⟩
      have n8_ : Aside0 (gb43 ≠ gb41) := ⟨h8_⟩
      have n9_ : Aside0 (gb38 ≠ gb43) := ⟨h9_⟩
      have n10_ : Aside0 (gb43 ≠ gb38) := ⟨h10_⟩
      have n11_ : Aside0 (gb39 ≠ gb43) := ⟨h11_⟩
      have n12_ : Aside0 (gb43 ≠ gb39) := ⟨h12_⟩
      have n13_ : Aside0 (Below w.heap.size w w29) := ⟨h13_⟩
      clear HO_9
      clear BK41
      clear BK38
      clear BK39
      clear HB
      clear h0_ h1_ h2_ h3_ h4_ h5_ h6_ h7_ h8_ h9_ h10_ h11_ h12_ h13_
      have HO_9 := n0_
      have BK41 := n1_
      have BK38 := n2_
      have BK39 := n3_
      have BK43 := n4_
      have GW43 := n5_
      have GE43 := n6_
      have NB499_510 := n7_
      have NB510_499 := n8_
      have NB500_510 := n9_
      have NB510_500 := n10_
      have NB505_510 := n11_
      have NB510_505 := n12_
      have HB := n13_
      clear n0_ n1_ n2_ n3_ n4_ n5_ n6_ n7_ n8_ n9_ n10_ n11_ n12_ n13_
      have hHeld : w29.cell? ⟨gb39, 0, none⟩ = some (.int .i64 ((rd_T87 l0_3 x17_1).f0)) ∧ w29.cell? ⟨gb39, 1, none⟩ = some (.slice A44_1 ((rd_T87 l0_3 x17_1).f1).length c44_1) ∧ w29.cell? ⟨gb38, 0, none⟩ = some (.int .i64 a1_0) ∧ w29.cell? ⟨gb38, 1, none⟩ = some (.int .i64 a1_1) ∧ w29.cell? ⟨gb38, 2, none⟩ = some (.int .i64 a1_2) ∧ w29.cell? ⟨gb38, 3, none⟩ = some (.int .i64 a1_3) ∧ w29.cell? ⟨gb38, 4, none⟩ = some (.slice A1_4 l1_4.length c1_4) := hS_
      refine norm_ (a' := ?_) ?_ ?_
      rotate_left
      ·simp only [putAll, Act.put, List.setIfInBounds_toArray, List.set_cons_zero, List.set_cons_succ]
       rfl
      refine one_ (i := 6) (N := none) #[Y, Y, Y, Y, Y, Y, Y] rfl rfl (by kernel_rfl) (by decide) (fun K hK => ?_)
      have hs30 : w29.cell? ⟨gb43, 0, none⟩ = some (.int .i64 0) := (blk_cell BK43.out 0).trans rfl
      have hfs30 := blk_frozen BK43.out 0
      have hns30_0 := NB499_510.out
      have hns30_1 := NB500_510.out
      have hns30_2 := NB505_510.out
      have hms30_0 := NB510_499.out
      have hms30_1 := NB510_500.out
      have hms30_2 := NB510_505.out
      have hs31 : w29.cell? ⟨gb43, 1, none⟩ = some (.int .i64 0) := (blk_cell BK43.out 1).trans rfl
      have hfs31 := blk_frozen BK43.out 1
      have hns31_0 := NB499_510.out
      have hns31_1 := NB500_510.out
      have hns31_2 := NB505_510.out
      have hms31_0 := NB510_499.out
      have hms31_1 := NB510_500.out
      have hms31_2 := NB510_505.out
      refine skip_ (w1 := ?_) (by rfl) rfl ?_ ?_
      rotate_left
      ·go_simp
       rfl
      refine hK.out _ _ ⟨((cell_far (p := ⟨gb43, _, none⟩) NB505_510.out _).trans (((cell_far (p := ⟨gb43, _, none⟩) NB505_510.out _).trans (hHeld.1)))), ((cell_far (p := ⟨gb43, _, none⟩) NB505_510.out _).trans (((cell_far (p := ⟨gb43, _, none⟩) NB505_510.out _).trans (hHeld.2.1)))), ((cell_far (p := ⟨gb43, _, none⟩) NB500_510.out _).trans (((cell_far (p := ⟨gb43, _, none⟩) NB500_510.out _).trans (hHeld.2.2.1)))), ((cell_far (p := ⟨gb43, _, none⟩) NB500_510.out _).trans (((cell_far (p := ⟨gb43, _, none⟩) NB500_510.out _).trans (hHeld.2.2.2.1)))), ((cell_far (p := ⟨gb43, _, none⟩) NB500_510.out _).trans (((cell_far (p := ⟨gb43, _, none⟩) NB500_510.out _).trans (hHeld.2.2.2.2.1)))), ((cell_far (p := ⟨gb43, _, none⟩) NB500_510.out _).trans (((cell_far (p := ⟨gb43, _, none⟩) NB500_510.out _).trans (hHeld.2.2.2.2.2.1)))), ((cell_far (p := ⟨gb43, _, none⟩) NB500_510.out _).trans (((cell_far (p := ⟨gb43, _, none⟩) NB500_510.out _).trans (hHeld.2.2.2.2.2.2))))⟩ (fun hHeld => ?_)
      clear hK K
      refine done_ (by kernel_rfl) ?_
      have H := HX_.out
      clear HX_
      by_cases c16 : t45 = 0
      ·rw [if_pos c16] at H
       have c16b0 : (t45 == 0) = true := beq_iff_eq.mpr c16
       have c16b1 : (t45 != 0) = false := bne_eq_false_iff_eq.mpr c16
       clear c16
       replace H := Option.bind_eq_some_iff.mp H
       obtain ⟨t58, A61, H⟩ := H
       replace H : (if t58 = true then (if x9_1.length < 8796093022208 then (impl_Engine_scan.l0 k1 a2 a3 (x9_1 ++ [(⟨(rd_T87 l0_3 x17_1).f0, t46⟩ : S105)]) l0_3 (l0_3.length : Int) (wrap64 (x17_1 + 1)) a1_0 a1_1 a1_2 a1_3 l1_4) else (none)) else (impl_Engine_scan.l0 k1 a2 a3 x9_1 l0_3 (l0_3.length : Int) (wrap64 (x17_1 + 1)) a1_0 a1_1 a1_2 a1_3 l1_4)) = some r := H
       have A17 := Aside0.mk A61
       clear A61
       by_cases c18 : t58 = true
       ·subst c18
        have H1 : (if x9_1.length < 8796093022208 then (impl_Engine_scan.l0 k1 a2 a3 (x9_1 ++ [(⟨(rd_T87 l0_3 x17_1).f0, t46⟩ : S105)]) l0_3 (l0_3.length : Int) (wrap64 (x17_1 + 1)) a1_0 a1_1 a1_2 a1_3 l1_4) else (none)) = some r := by rw [if_pos rfl] at H; exact H
        clear H
        have H := H1
        clear H1
        by_cases c19 : x9_1.length < 8796093022208
        ·rw [if_pos c19] at H
         have LMc19 := Aside0.mk c19
         clear c19
         obtain ⟨y57, hy57⟩ : ∃ y_ : List (S105), y_ = (x9_1 ++ [(⟨(rd_T87 l0_3 x17_1).f0, t46⟩ : S105)]) := ⟨_, rfl⟩
         replace H : (impl_Engine_scan.l0 k1 a2 a3 y57 l0_3 (l0_3.length : Int) (wrap64 (x17_1 + 1)) a1_0 a1_1 a1_2 a1_3 l1_4) = some r := by first | (rw [hy57]; with_reducible exact H) | (have H2_ := (Option.bind_some _ _).symm.trans H; rw [hy57]; with_reducible exact H2_) | (have H2_ := (Option.bind_some _ _).symm.trans H; with_reducible exact H2_) | with_reducible exact H | (rw [hy57]; exact H) | exact H
         have Ny57 := Aside0.mk hy57
         clear hy57
         have H' := Aside0.mk H
         clear H
         have hnb32 := NB510_499.out
         have hnc32 := NB499_510.out
         have hnb33 := NB510_500.out
         have hnc33 := NB500_510.out
         have hnb34 := NB510_505.out
         have hnc34 := NB505_510.out
         obtain ⟨z35_0, z35_1, j35_0, j35_1⟩ := Lv.blks2 BK43.out
         obtain ⟨z36_0, z36_1, j36_0, j36_1⟩ := Lv.blks2 BK39.out
         try go_wp2_with (first | (go_at_call 55; (with_reducible refine (impl_within.calls ((rd_T87 l0_3 x17_1).f0) a2 a3 true _ A17.out).mono ?_); rintro e w' ⟨rfl, ⟨nd, rfl⟩⟩) | ((with_reducible refine gate_builtin (b := .append) (xs := #[.tmp 36, .tmp 42]) rfl ?_); at_builtin; refine Kd.R_append k105 (w0 := w) w.heap.size rfl (.tmp 36) (.tmp 42) 40 105 (.agg #[(.int .i64 0), (.int .i64 0)]) 16 rfl Try.underlying40 info105 rfl (by decide) (by omega) u9 x9_1 (⟨(rd_T87 l0_3 x17_1).f0, t46⟩ : S105) [.int .i64 ((rd_T87 l0_3 x17_1).f0), .int .i64 t46] (fun _ => True) (fun _ => False) rfl (by first | exact (congrArg (fun n_ => Value.slice (some ⟨n_, 0, none⟩) 1 1) (by simp [World.setCell])) | (go_simp; done) | (go_simp; rfl)) ?aP (fun _ hk => hk.elim) ?aF ?aO ?aB ?aS ?aL ?_; (case aP => exact k105_mkM _ _ _ (⟨(rd_T87 l0_3 x17_1).f0, t46⟩ : S105)); (case aB => exact zb); (case aF => exact (fun _ _ => trivial)); (case aO => exact (by refine zR ?_; exact Kd.R_mono (Kd.R_far (p := ⟨gb43, 1, none⟩) (Kd.R_far (p := ⟨gb43, 0, none⟩) (Kd.R_types HO_9.out BK43.out (by decide)) (fun _ hk => hk.2) (.int .i64 t45)) (fun _ hk => hk.2) (.int .i64 t46)) (fun _ hk => trivial))); (case aS => exact (below_size zb)); (case aL => have := LMc19.out; omega); intro v66 w37 ho hb hg hat; rw [← Ny57.out] at ho; have HO63 := Aside0.mk ho; replace BK41 := Aside0.mk (blk_grown (g := gb41) (o := .cells #[.int .i64 a0_0, .int .i64 a0_1, .slice A0_2 l0_2.length c0_2, .slice (some ad44) l0_3.length c0_3] 31 (0, 0)) (by refine zQ ?_; refine blk_far ?_ NB499_510.out _; refine zQ ?_; refine blk_far ?_ NB499_510.out _; refine zQ ?_; exact BK41.out) hg (Kd.R_ne HO_9.out BK41.out (by decide))); replace BK38 := Aside0.mk (blk_grown (g := gb38) (o := .cells #[.int .i64 a1_0, .int .i64 a1_1, .int .i64 a1_2, .int .i64 a1_3, .slice A1_4 l1_4.length c1_4] 83 (0, 0)) (by refine zQ ?_; refine blk_far ?_ NB500_510.out _; refine zQ ?_; refine blk_far ?_ NB500_510.out _; refine zQ ?_; exact BK38.out) hg (Kd.R_ne HO_9.out BK38.out (by decide))); replace BK39 := Aside0.mk (blk_grown (g := gb39) (o := .cells #[.int .i64 ((rd_T87 l0_3 x17_1).f0), .slice A44_1 ((rd_T87 l0_3 x17_1).f1).length c44_1] 87 (0, 0)) (by refine zQ ?_; refine blk_far ?_ NB505_510.out _; refine zQ ?_; refine blk_far ?_ NB505_510.out _; refine zQ ?_; exact BK39.out) hg (Kd.R_ne HO_9.out BK39.out (by decide))); replace BK43 := Aside0.mk (blk_grown (g := gb43) (o := .cells #[.int .i64 t45, .int .i64 t46] 48 (0, 0)) (by refine zQ ?_; refine blk_put (cs := #[.int .i64 t45, .int .i64 0]) ?_ 1 _ rfl; refine zQ ?_; refine blk_put (cs := #[.int .i64 0, .int .i64 0]) ?_ 0 _ rfl; refine zQ ?_; exact BK43.out) hg (Kd.R_ne HO_9.out BK43.out (by decide))); replace HB := Aside0.mk hb; clear HO_9; clear ho hb hg hat))
         go_roundg k1
         case measure => have := HK1.out; omega
         case rel => exact ⟨(y57), (wrap64 (x17_1 + 1)), zs, H', ⟨by have := HK1.out; omega⟩, ⟨zr HO63⟩, ⟨zq BK41⟩, ⟨zq BK38⟩, ⟨zb⟩⟩
        rw [if_neg c19] at H
        exact absurd H (by simp)
       replace c18 := Bool.eq_false_iff.mpr c18
       subst c18
       have H1 : (impl_Engine_scan.l0 k1 a2 a3 x9_1 l0_3 (l0_3.length : Int) (wrap64 (x17_1 + 1)) a1_0 a1_1 a1_2 a1_3 l1_4) = some r := by rw [if_neg (show ¬ (false = true) by decide)] at H; exact H
       clear H
       have H := H1
       clear H1
       have H' := Aside0.mk H
       clear H
       have hnb50 := NB510_499.out
       have hnc50 := NB499_510.out
       have hnb51 := NB510_500.out
       have hnc51 := NB500_510.out
       have hnb52 := NB510_505.out
       have hnc52 := NB505_510.out
       obtain ⟨z53_0, z53_1, j53_0, j53_1⟩ := Lv.blks2 BK43.out
       obtain ⟨z54_0, z54_1, j54_0, j54_1⟩ := Lv.blks2 BK39.out
       try go_wp2_with (first | (go_at_call 55; (with_reducible refine (impl_within.calls ((rd_T87 l0_3 x17_1).f0) a2 a3 false _ A17.out).mono ?_); rintro e w' ⟨rfl, ⟨nd, rfl⟩⟩))
       go_roundg k1
       case measure => have := HK1.out; omega
       case rel => exact ⟨(x9_1), (wrap64 (x17_1 + 1)), zs, H', ⟨by have := HK1.out; omega⟩, ⟨by refine zR ?_; exact Kd.R_mono (Kd.R_far (p := ⟨gb43, 1, none⟩) (Kd.R_far (p := ⟨gb43, 0, none⟩) (Kd.R_types HO_9.out BK43.out (by decide)) (fun _ hk => hk.2) (.int .i64 t45)) (fun _ hk => hk.2) (.int .i64 t46)) (fun _ hk => trivial)⟩, ⟨by refine zQ ?_; refine blk_far ?_ NB499_510.out _; refine zQ ?_; refine blk_far ?_ NB499_510.out _; refine zQ ?_; exact BK41.out⟩, ⟨by refine zQ ?_; refine blk_far ?_ NB500_510.out _; refine zQ ?_; refine blk_far ?_ NB500_510.out _; refine zQ ?_; exact BK38.out⟩, ⟨zb⟩⟩
      ·rw [if_neg c16] at H
       have c16b0 : (t45 == 0) = false := beq_eq_false_iff_ne.mpr c16
       have c16b1 : (t45 != 0) = true := bne_iff_ne.mpr c16
       have H' := Aside0.mk H
       clear H
       have hnb67 := NB510_499.out
       have hnc67 := NB499_510.out
       have hnb68 := NB510_500.out
       have hnc68 := NB500_510.out
       have hnb69 := NB510_505.out
       have hnc69 := NB505_510.out
       obtain ⟨z70_0, z70_1, j70_0, j70_1⟩ := Lv.blks2 BK43.out
       try go_wp2
       go_roundg k1
       case measure => have := HK1.out; omega
       case rel => exact ⟨(x9_1), (wrap64 (x17_1 + 1)), zs, H', ⟨by have := HK1.out; omega⟩, ⟨by refine zR ?_; exact Kd.R_mono (Kd.R_far (p := ⟨gb43, 1, none⟩) (Kd.R_far (p := ⟨gb43, 0, none⟩) (Kd.R_types HO_9.out BK43.out (by decide)) (fun _ hk => hk.2) (.int .i64 t45)) (fun _ hk => hk.2) (.int .i64 t46)) (fun _ hk => trivial)⟩, ⟨by refine zQ ?_; refine blk_far ?_ NB499_510.out _; refine zQ ?_; refine blk_far ?_ NB499_510.out _; refine zQ ?_; exact BK41.out⟩, ⟨by refine zQ ?_; refine blk_far ?_ NB500_510.out _; refine zQ ?_; refine blk_far ?_ NB500_510.out _; refine zQ ?_; exact BK38.out⟩, ⟨zb⟩⟩
     rw [if_neg c13] at H
     exact absurd H (by simp)
    rw [if_neg c12] at H
    exact absurd H (by simp)
   rw [if_neg c11] at H
   have c11b0 : decide (x17_1 < (l0_3.length : Int)) = false := decide_eq_false c11
   clear c11
   obtain rfl := Option.some.inj H
   go_wp2
   go_ret
   exact ⟨_, ze, by refine zR ?_; exact HO_9.out, zb⟩
end Go.Proofs.Ytonbnmaelepcbaa.P
