import Derived.Test.YtonbnmaelepcbaaP0
import Derived.Test.YtonbnmaelepcbaaPCacdefgh2
import Derived.Test.YtonbnmaelepcbaaPCacdefgh6
import Derived.Test.YtonbnmaelepcbaaPCdgh0
import Derived.Test.YtonbnmaelepcbaaPCfg0
import Derived.Test.YtonbnmaelepcbaaPCg0
import Derived.Test.YtonbnmaelepcbaaPCgh0
import Derived.Test.YtonbnmaelepcbaaPDg0
import Derived.Test.YtonbnmaelepcbaaWRepsOne
import Derived.Test.YtonbnmaelepcbaaLb
import Derived.Test.YtonbnmaelepcbaaLv
import Derived.IntWalk
import Derived.Shelf.Abstract
import Derived.Test.YtonbnmaelepcbaaZz
namespace Go.Proofs.Ytonbnmaelepcbaa.P
open Go.RowKit Go.Proofs.YtonbnmaelepcbaaW.PrintWords Go.Proofs.YtonbnmaelepcbaaW.PrintLast Go.Proofs.YtonbnmaelepcbaaW.PrintMore
attribute [local go_sem] max2_int min2_int max_two min_two max_three min_three max_four min_four   -- for this text's walks alone
set_option linter.unusedVariables false
set_option linter.unusedSimpArgs false
-- PROOF --
theorem fld63_1 (x0 x1 : Value) (w : World) : (Instr.field 63 (.agg #[x0, x1]) 1).run Try.prog w = .ok x1 w := by
 simp [Instr.field, run_underlying Try.underlying63, run_underlying Try.underlying61, part, isAgg, asAgg]
attribute [local go_sem] fld63_1
theorem xi {W : World} {B : Nat} {ax : Addr} {x : List Int} {c : Nat} {i id : Int} (h : Aside0 (Kd.R (Kd.int .i64) 2 W B (fun _ => True) (.slice (some ax) x.length c) x)) (i0 : 0 ≤ i) (i1 : Aside0 (i < (x.length : Int))) (hd : Aside0 (id = rd x i)) : W.cell? (ax.add i.toNat) = some (.int .i64 id) := by
 obtain ⟨ax_, ea_, hx_⟩ := Kd.at_int (Kd.R_reads' h.out).2.2 i i0 i1.out
 cases ea_
 rw [hd.out]
 exact hx_
set_option maxHeartbeats 8000000 in
set_option maxRecDepth 100000 in
theorem spec_SameAnswers.calls (k : Nat) (a0_0 a0_1 : Int) (A2 : Option Addr) (c2 : Nat) (l2 : List S83) (A3 : Option Addr) (c3 : Nat) (l3 : List S87) (b0_0 b0_1 : Int) (B2 : Option Addr) (d2 : Nat) (m2 : List S83) (B3 : Option Addr) (d3 : Nat) (m3 : List S87) (r : Bool) (w : World) (hr2 : Kd.C k83 w A2 l2.length l2) (hc2 : l2.length ≤ c2) (hr3 : Kd.C k87 w A3 l3.length l3) (hc3 : l3.length ≤ c3) (hs2 : Kd.C k83 w B2 m2.length m2) (hd2 : m2.length ≤ d2) (hs3 : Kd.C k87 w B3 m3.length m3) (hd3 : m3.length ≤ d3) (h : spec_SameAnswers.f k a0_0 a0_1 l2 l3 b0_0 b0_1 m2 m3 = some r) :
 Calls Try.prog 41 #[.agg #[.int .i64 a0_0, .int .i64 a0_1, .slice A2 l2.length c2, .slice A3 l3.length c3], .agg #[.int .i64 b0_0, .int .i64 b0_1, .slice B2 m2.length d2, .slice B3 m3.length d3]] w fun e w' => e = .returned (.bool r) ∧ Below w.heap.size w w' := by
 have hu28 := Try.underlying28
 have hu31 := Try.underlying31
 have hu61 := Try.underlying61
 have hu63 := Try.underlying63
 have hu83 := Try.underlying83
 have hu116 := Try.underlying116
 have HB := Aside0.mk (Below.refl w.heap.size w)
 have HR2 := Aside0.mk hr2
 have HR3 := Aside0.mk hr3
 have HC2 := Aside0.mk hc2
 have HC3 := Aside0.mk hc3
 have hn2 := hr2.2.1
 have hn3 := hr3.2.1
 clear hr2 hr3 hc2 hc3
 have HS2 := Aside0.mk hs2
 have HS3 := Aside0.mk hs3
 have HD2 := Aside0.mk hd2
 have HD3 := Aside0.mk hd3
 have hm2 := hs2.2.1
 have hm3 := hs3.2.1
 clear hs2 hs3 hd2 hd3
 unfold spec_SameAnswers.f at h
 obtain ⟨fa, hf, h⟩ := Option.bind_eq_some_iff.mp h
 have HF := Aside0.mk hf
 clear hf
 by_cases f0 : fa = 0
 ·rw [if_pos f0] at h
  obtain ⟨fb, hg, h⟩ := Option.bind_eq_some_iff.mp h
  have HG := Aside0.mk hg
  clear hg
  have f01 : (fa == 0) = true := beq_iff_eq.2 f0
  have f02 : (fa != 0) = false := bne_eq_false_iff_eq.2 f0
  have F0 := Aside0.mk f0
  clear f0
  by_cases g0 : fb = 0
  ·rw [if_pos g0] at h
   have g01 : (fb == 0) = true := beq_iff_eq.2 g0
   have g02 : (fb != 0) = false := bne_eq_false_iff_eq.2 g0
   have G0 := Aside0.mk g0
   clear g0
   by_cases k0 : a0_1 = b0_1
   ·rw [if_pos k0] at h
    have k01 : (a0_1 == b0_1) = true := beq_iff_eq.2 k0
    have k02 : (a0_1 != b0_1) = false := bne_eq_false_iff_eq.2 k0
    have K0 := Aside0.mk k0
    clear k0
    by_cases n0 : a0_0 = b0_0
    ·rw [if_pos n0] at h
     have n01 : (a0_0 == b0_0) = true := beq_iff_eq.2 n0
     have n02 : (a0_0 != b0_0) = false := bne_eq_false_iff_eq.2 n0
     have N0 := Aside0.mk n0
     clear n0
     obtain ⟨⟨x1, x⟩, hx, h⟩ := Option.bind_eq_some_iff.mp h
     obtain ⟨⟨y1, y⟩, hy, h⟩ := Option.bind_eq_some_iff.mp h
     obtain ⟨q, hq, h⟩ := Option.bind_eq_some_iff.mp h
     have HX := Aside0.mk hx
     have HY := Aside0.mk hy
     have HQ := Aside0.mk hq
     clear hx hy hq
     simp only at h
     have H := Aside0.mk h
     clear h
     go_enter Try.func41, Try.ntmps41
     go_wp2_with fail
     have b1_ := blk_new w (Obj.cells #[.int .i64 a0_0, .int .i64 a0_1, .slice A2 l2.length c2, .slice A3 l3.length c3] 31)
     have b2_ := blk_new (w.alloc (Obj.cells #[.int .i64 a0_0, .int .i64 a0_1, .slice A2 l2.length c2, .slice A3 l3.length c3] 31)) (Obj.cells #[.int .i64 b0_0, .int .i64 b0_1, .slice B2 m2.length d2, .slice B3 m3.length d3] 31)
     have XA := Aside0.mk (blk_alloc b1_ (Obj.cells #[.int .i64 b0_0, .int .i64 b0_1, .slice B2 m2.length d2, .slice B3 m3.length d3] 31))
     have e1_ : (w.alloc (Obj.cells #[.int .i64 a0_0, .int .i64 a0_1, .slice A2 l2.length c2, .slice A3 l3.length c3] 31)).heap.size = w.heap.size + 1 := by simp
     rw [e1_] at b2_
     have XB := Aside0.mk b2_
     have HB := Aside0.mk (below_alloc (below_alloc (Below.refl w.heap.size w) (Obj.cells #[.int .i64 a0_0, .int .i64 a0_1, .slice A2 l2.length c2, .slice A3 l3.length c3] 31)) (Obj.cells #[.int .i64 b0_0, .int .i64 b0_1, .slice B2 m2.length d2, .slice B3 m3.length d3] 31))
     clear b1_ b2_
     try rw [e1_]
     generalize (w.alloc (Obj.cells #[.int .i64 a0_0, .int .i64 a0_1, .slice A2 l2.length c2, .slice A3 l3.length c3] 31)).alloc (Obj.cells #[.int .i64 b0_0, .int .i64 b0_1, .slice B2 m2.length d2, .slice B3 m3.length d3] 31) = u0 at XA XB HB ⊢
     clear e1_
     refine (spec_l6Fault.calls (g := w.heap.size) k a0_0 a0_1 _ c2 l2 A3 c3 l3 fa _ (Kd.C_below HR2.out HB.out) HC2.out (Kd.C_below HR3.out HB.out) HC3.out HF.out XA).mono ?_
     rintro e u1 ⟨rfl, hb⟩
     replace HB := Aside0.mk (show Below w.heap.size w _ from below_step HB.out hb)
     replace XA := Aside0.mk (keepB hb XA.out)
     replace XB := Aside0.mk (keepB hb XB.out)
     clear hb
     obtain ⟨cXA_0, cXA_1, cXA_2, cXA_3, -, -, -, -⟩ := Lv.blks4 XA.out
     have lXA := blk_lt XA.out
     have nXA := Nat.ne_of_lt (blk_lt XA.out)
     obtain ⟨cXB_0, cXB_1, cXB_2, cXB_3, -, -, -, -⟩ := Lv.blks4 XB.out
     have lXB := blk_lt XB.out
     have nXB := Nat.ne_of_lt (blk_lt XB.out)
     go_wp2_with fail
     refine (spec_l6Fault.calls (g := w.heap.size + 1) k b0_0 b0_1 _ d2 m2 B3 d3 m3 fb _ (Kd.C_below HS2.out HB.out) HD2.out (Kd.C_below HS3.out HB.out) HD3.out HG.out XB).mono ?_
     clear cXA_0 cXA_1 cXA_2 cXA_3 lXA nXA cXB_0 cXB_1 cXB_2 cXB_3 lXB nXB
     rintro e u2 ⟨rfl, hb⟩
     replace HB := Aside0.mk (show Below w.heap.size w _ from below_step HB.out hb)
     replace XA := Aside0.mk (keepB hb XA.out)
     replace XB := Aside0.mk (keepB hb XB.out)
     clear hb
     obtain ⟨cXA_0, cXA_1, cXA_2, cXA_3, -, -, -, -⟩ := Lv.blks4 XA.out
     have lXA := blk_lt XA.out
     have nXA := Nat.ne_of_lt (blk_lt XA.out)
     obtain ⟨cXB_0, cXB_1, cXB_2, cXB_3, -, -, -, -⟩ := Lv.blks4 XB.out
     have lXB := blk_lt XB.out
     have nXB := Nat.ne_of_lt (blk_lt XB.out)
     go_wp2_with fail
     refine (spec_OpenTxns.calls k a0_0 a0_1 _ c2 l2 A3 c3 l3 x1 x _ (Kd.C_below HR2.out HB.out) HC2.out (Kd.C_below HR3.out HB.out) HC3.out HX.out).mono ?_
     clear cXA_0 cXA_1 cXA_2 cXA_3 lXA nXA cXB_0 cXB_1 cXB_2 cXB_3 lXB nXB
     rintro e u3 ⟨v1, rfl, hr, hb⟩
     have hz_ := HB.out.size
     replace HB := Aside0.mk (show Below w.heap.size w _ from below_step HB.out hb)
     replace XA := Aside0.mk (keepB hb XA.out)
     replace XB := Aside0.mk (keepB hb XB.out)
     clear hb
     obtain ⟨ARX, cRX, eRX⟩ := Kd.R_slice hr
     subst eRX
     have RX := Aside0.mk (show Kd.R (Kd.int .i64) 2 u3 w.heap.size (fun _ => True) (.slice ARX x.length cRX) x from Kd.R_lower hr hz_)
     clear hr
     clear hz_
     obtain ⟨cXA_0, cXA_1, cXA_2, cXA_3, -, -, -, -⟩ := Lv.blks4 XA.out
     have lXA := blk_lt XA.out
     have nXA := Nat.ne_of_lt (blk_lt XA.out)
     obtain ⟨cXB_0, cXB_1, cXB_2, cXB_3, -, -, -, -⟩ := Lv.blks4 XB.out
     have lXB := blk_lt XB.out
     have nXB := Nat.ne_of_lt (blk_lt XB.out)
     go_wp2_with fail
     refine (spec_OpenTxns.calls k b0_0 b0_1 _ d2 m2 B3 d3 m3 y1 y _ (Kd.C_below HS2.out HB.out) HD2.out (Kd.C_below HS3.out HB.out) HD3.out HY.out).mono ?_
     clear cXA_0 cXA_1 cXA_2 cXA_3 lXA nXA cXB_0 cXB_1 cXB_2 cXB_3 lXB nXB
     rintro e u4 ⟨v1, rfl, hr, hb⟩
     have hz_ := HB.out.size
     replace HB := Aside0.mk (show Below w.heap.size w _ from below_step HB.out hb)
     replace XA := Aside0.mk (keepB hb XA.out)
     replace XB := Aside0.mk (keepB hb XB.out)
     replace RX := Aside0.mk (Kd.R_below RX.out hb)
     clear hb
     obtain ⟨ARY, cRY, eRY⟩ := Kd.R_slice hr
     subst eRY
     have RY := Aside0.mk (show Kd.R (Kd.int .i64) 2 u4 w.heap.size (fun _ => True) (.slice ARY y.length cRY) y from Kd.R_lower hr hz_)
     clear hr
     clear hz_
     obtain ⟨cXA_0, cXA_1, cXA_2, cXA_3, -, -, -, -⟩ := Lv.blks4 XA.out
     have lXA := blk_lt XA.out
     have nXA := Nat.ne_of_lt (blk_lt XA.out)
     obtain ⟨cXB_0, cXB_1, cXB_2, cXB_3, -, -, -, -⟩ := Lv.blks4 XB.out
     have lXB := blk_lt XB.out
     have nXB := Nat.ne_of_lt (blk_lt XB.out)
     go_wp2_with fail
     refine (spec_l7Same.calls k _ _ x _ _ y q _ (Kd.R_reads' RX.out).2.2 (Kd.R_reads' RX.out).2.1 (Kd.R_reads' RY.out).2.2 (Kd.R_reads' RY.out).2.1 HQ.out).mono ?_
     clear cXA_0 cXA_1 cXA_2 cXA_3 lXA nXA cXB_0 cXB_1 cXB_2 cXB_3 lXB nXB
     rintro e u5 ⟨rfl, hd⟩
     have hb : Below u4.heap.size u4 u5 := by obtain ⟨n_, rfl⟩ := hd.out; exact pw_below_drewN (Below.refl _ _) n_
     clear hd
     replace HB := Aside0.mk (show Below w.heap.size w _ from below_step HB.out hb)
     replace XA := Aside0.mk (keepB hb XA.out)
     replace XB := Aside0.mk (keepB hb XB.out)
     replace RX := Aside0.mk (Kd.R_below RX.out hb)
     replace RY := Aside0.mk (Kd.R_below RY.out hb)
     clear hb
     clear RY
     cases q with
     | false =>
      have h := H.out
      rw [if_neg (by decide)] at h
      obtain rfl := Option.some.inj h
      clear H
      go_wp2_with fail
      go_ret
      exact ⟨rfl, HB.out⟩
     | true =>
      have h := H.out
      rw [if_pos rfl] at h
      have H0 := Aside0.mk h
      clear H h
      have hxl := (Kd.R_reads' RX.out).2.2.2.1
      go_wp2_with fail
      go_loopg [6] k (fun kq v6 wr => ∃ (i : Int), v6 = .int .i64 i ∧ Aside0 (spec_SameAnswers.l0 kq l2 l3 m2 m3 x i = some r) ∧ Aside0 (kq ≤ k) ∧ Aside0 (0 ≤ i ∧ i ≤ (x.length : Int)) ∧ Aside0 (wr.heap[w.heap.size]? = some (Obj.cells #[.int .i64 a0_0, .int .i64 a0_1, .slice A2 l2.length c2, .slice A3 l3.length c3] 31)) ∧ Aside0 (wr.heap[w.heap.size + 1]? = some (Obj.cells #[.int .i64 b0_0, .int .i64 b0_1, .slice B2 m2.length d2, .slice B3 m3.length d3] 31)) ∧ Aside0 (Kd.R (Kd.int .i64) 2 wr w.heap.size (fun _ => True) (.slice ARX x.length cRX) x) ∧ Aside0 (Below w.heap.size w wr))
      case atStart => exact ⟨0, rfl, H0, ⟨Nat.le_refl _⟩, ⟨by omega⟩, XA, XB, RX, HB⟩
      case round =>
       clear H0 XA XB RX HB
       obtain ⟨i, rfl, HA, HK1, HI, XA, XB, RX, HB⟩ := hrel
       cases gk with
       | zero => exact absurd HA.out (by simp [spec_SameAnswers.l0])
       | succ k1 =>
        have H := HA.out
        clear HA
        simp only [spec_SameAnswers.l0] at H
        by_cases c1 : i < (x.length : Int)
        ·rw [if_pos c1] at H
         have C1 := Aside0.mk c1
         have E9 := Aside0.mk (show wrap64 (i + 1) = i + 1 from by have h_ := HI.out; have h2_ := C1.out; exact Lb.w64 (by omega) (by omega))
         have d1 : decide (i < (x.length : Int)) = true := decide_eq_true c1
         have i0 : 0 ≤ i := HI.out.1
         obtain ⟨id, hid⟩ : ∃ z, z = rd x i := ⟨_, rfl⟩
         obtain ⟨ja, hja⟩ : ∃ z, z = Lb.idx (fun u : S83 => u.f0 == id) l2 := ⟨_, rfl⟩
         obtain ⟨jb, hjb⟩ : ∃ z, z = Lb.idx (fun u : S83 => u.f0 == id) m2 := ⟨_, rfl⟩
         rw [← hid, ← hja, ← hjb] at H
         by_cases cj : ja < 0 ∨ jb < 0
         ·exact absurd H (by rw [if_pos cj]; simp)
         rw [if_neg cj] at H
         have ja0 : 0 ≤ ja := by omega
         have jb0 : 0 ≤ jb := by omega
         have ja1 : ja < (l2.length : Int) := by rw [hja]; exact idx_lt _ _ (by rw [← hja]; exact ja0)
         have jb1 : jb < (m2.length : Int) := by rw [hjb]; exact idx_lt _ _ (by rw [← hjb]; exact jb0)
         have i0_ := eq_true i0
         have i1_ := eq_true c1
         have ja0_ := eq_true ja0
         have ja1_ := eq_true ja1
         have jb0_ := eq_true jb0
         have jb1_ := eq_true jb1
         have HID := Aside0.mk hid
         have HJA := Aside0.mk hja
         have HJB := Aside0.mk hjb
         clear hid hja hjb cj
         obtain ⟨Y, hY⟩ : ∃ z, z = l2.getD ja.toNat z83 := ⟨_, rfl⟩
         obtain ⟨Z, hZ⟩ : ∃ z, z = m2.getD jb.toNat z83 := ⟨_, rfl⟩
         rw [← hY, ← hZ] at H
         have HY := Aside0.mk hY
         have HZ := Aside0.mk hZ
         clear hY hZ
         obtain ⟨q, hq, H⟩ := Option.bind_eq_some_iff.mp H
         unfold sameScan at hq
         obtain ⟨sc, hsc, hq⟩ := Option.bind_eq_some_iff.mp hq
         obtain ⟨sd, hsd, hq⟩ := Option.bind_eq_some_iff.mp hq
         have HSC := Aside0.mk hsc
         have HSD := Aside0.mk hsd
         have HQ2 := Aside0.mk hq
         have H2 := Aside0.mk H
         clear hsc hsd hq H
         obtain ⟨ax, ea, hx_⟩ := Kd.at_int (Kd.R_reads' RX.out).2.2 i i0 c1
         cases ea
         rw [← HID.out] at hx_
         have HXI := Aside0.mk hx_
         clear hx_ c1
         obtain ⟨ad, A4, c4, ea, hw0, hw1, -, -, -, -, -⟩ := at_T83 HR2.out ja ja0 ja1
         cases ea
         rw [show rd_T83 l2 ja = Y from HY.out.symm] at hw0 hw1
         have HW0 := Aside0.mk hw0
         have HW1 := Aside0.mk hw1
         clear hw0 hw1
         obtain ⟨bd, A5, c5, ea, hw0, hw1, -, -, -, -, -⟩ := at_T83 HS2.out jb jb0 jb1
         cases ea
         rw [show rd_T83 m2 jb = Z from HZ.out.symm] at hw0 hw1
         have HV0 := Aside0.mk hw0
         have HV1 := Aside0.mk hw1
         clear hw0 hw1
         go_wp2_with fail
         go_upto_region 9 with fail
         go_cut [7] (fun v7 wc => ∃ b7, v7 = .pointer (some ⟨b7, 0, none⟩) ∧ Aside0 (wc.heap[b7]? = some (Obj.cells #[.int .i64 Y.f1, .int .i64 Y.f0] 116)) ∧ Aside0 (Kd.R (Kd.int .i64) 2 wc w.heap.size (fun _ => True) (.slice (some ax) x.length cRX) x) ∧ Aside0 (Below w.heap.size w wc) ∧ Aside0 (wc.heap[w.heap.size]? = some (Obj.cells #[.int .i64 a0_0, .int .i64 a0_1, .slice (some ad) l2.length c2, .slice A3 l3.length c3] 31)) ∧ Aside0 (wc.heap[w.heap.size + 1]? = some (Obj.cells #[.int .i64 b0_0, .int .i64 b0_1, .slice (some bd) m2.length d2, .slice B3 m3.length d3] 31)))
         case first =>
          refine start_ (n := 11) (S := fun W_ => W_.cell? ⟨w.heap.size, 2, none⟩ = some (.slice (some ad) l2.length c2) ∧ W_.cell? (ax.add i.toNat) = some (.int .i64 id)) (ds := [10]) #[false, false, false, false, false, false, false, false, false, false, false] (by kernel_rfl) rfl rfl ⟨(blk_cell XA.out 2).trans rfl, xi RX i0 C1 HID⟩ (fun hHeld => ?_)
          replace HB := Aside0.mk (below_drew1 HB.out)
          replace XA := Aside0.mk (blk_drew XA.out)
          replace XB := Aside0.mk (blk_drew XB.out)
          replace RX := Aside0.mk (Kd.R_drew RX.out)
          generalize wr.drew = u6 at HB hHeld XA XB RX ⊢
          refine zp 0 44 ?_; refine zp 2 46 ?_; refine zp 3 47 ?_; refine zp 4 48 ?_; refine zt 1 45 ?_; refine zt 5 49 ?_
          refine two_ (i := 6) (j := 9) (Ni := some 50) (Nj := some 7) #[true, true, true, true, true, true, true, false, false, false, false] #[true, true, true, true, true, true, false, false, false, true, false] rfl rfl rfl rfl (by kernel_rfl) (by decide) (by decide) (fun K hK => ?_) (fun K hK => ?_)
          ·skip
           refine zg Try.func98 #[.pointer (some ⟨w.heap.size, 0, none⟩), .int .i64 id] ?_
           with_reducible refine (spec_l6Txn.at ⟨w.heap.size, 0, none⟩ _ c2 l2 id _ ((blk_cell XA.out 2).trans rfl) (Kd.C_below HR2.out HB.out)).mono ?_
           rintro e w_ ⟨rfl, rfl⟩
           rw [← HJA.out]
           refine ⟨_, rfl, ?_⟩
           refine hK.out _ _ ⟨(blk_cell XA.out 2).trans rfl, xi RX i0 C1 HID⟩ (fun hHeld => ?_)
           clear hK K
           refine zn 50 ?_
           refine zp 7 51 ?_
           refine two_ (i := 8) (j := 9) (Ni := some 52) (Nj := some 7) #[true, true, true, true, true, true, true, true, true, false, false] #[true, true, true, true, true, true, true, true, false, true, false] rfl rfl rfl rfl (by kernel_rfl) (by decide) (by decide) (fun K hK => ?_) (fun K hK => ?_)
           ·skip
            refine zg Try.func81 #[.pointer (some (ad.add (ja.toNat * 5)))] ?_
            with_reducible refine (spec_l6View.at (ad.add (ja.toNat * 5)) Y.f0 Y.f1 _ (pw_cell_below HB.out HW0.out) (pw_cell_below HB.out HW1.out)).mono ?_
            rintro e u7 ⟨rfl, hb⟩
            refine ⟨_, rfl, ?_⟩
            replace HB := Aside0.mk (show Below w.heap.size w _ from below_step HB.out hb)
            replace XA := Aside0.mk (keepB hb XA.out)
            replace XB := Aside0.mk (keepB hb XB.out)
            replace RX := Aside0.mk (Kd.R_below RX.out hb)
            clear hb
            refine hK.out _ _ ⟨(blk_cell XA.out 2).trans rfl, xi RX i0 C1 HID⟩ (fun hHeld => ?_)
            clear hK K
            refine zn 52 ?_
            refine z1 9 (some 7) (fun K hK => ?_)
            refine value_ (w1 := ?_) (v := ?_) (by rfl) rfl ?_ ?_
            rotate_left 2
            ·go_simp
             constructor
             ·rfl
             rfl
            have hb : Below u7.heap.size u7 (u7.alloc (Obj.cells #[.int .i64 0, .int .i64 0] 116)) := below_alloc (Below.refl _ _) _
            have XV7 := Aside0.mk (blk_new u7 (Obj.cells #[.int .i64 0, .int .i64 0] 116))
            have GEXV7 := Aside0.mk HB.out.size
            have NEXAXV7 := Aside0.mk (Nat.ne_of_lt (blk_lt XA.out))
            have NEXBXV7 := Aside0.mk (Nat.ne_of_lt (blk_lt XB.out))
            replace HB := Aside0.mk (show Below w.heap.size w _ from below_step HB.out hb)
            replace XA := Aside0.mk (keepB hb XA.out)
            replace XB := Aside0.mk (keepB hb XB.out)
            replace RX := Aside0.mk (Kd.R_below RX.out hb)
            clear hb
            generalize u7.alloc (Obj.cells #[.int .i64 0, .int .i64 0] 116) = u8 at HB XV7 XA XB RX ⊢
            generalize hb7 : u7.heap.size = b7 at XV7 GEXV7 NEXAXV7 NEXBXV7 ⊢
            clear hb7
            refine hK.out _ _ ⟨(blk_cell XA.out 2).trans rfl, xi RX i0 C1 HID⟩ (fun hHeld => ?_)
            clear hK K
            refine zn 7 ?_
            have cR_0 : u8.cell? ⟨b7, 0, none⟩ = some (.int .i64 0) := (blk_cell XV7.out 0).trans rfl
            have cR_1 : u8.cell? ⟨b7, 1, none⟩ = some (.int .i64 0) := (blk_cell XV7.out 1).trans rfl
            have fR_0 : u8.frozen? ⟨b7, 0, none⟩ = false := blk_frozen XV7.out 0
            have fR_1 : u8.frozen? ⟨b7, 1, none⟩ = false := blk_frozen XV7.out 1
            refine last_ (i := 10) (N := none) #[true, true, true, true, true, true, true, true, true, true, true] rfl rfl (by kernel_rfl) (by decide) (fun K hK => ?_)
            refine skip_ (w1 := ?_) (by rfl) rfl ?_ ?_
            rotate_left
            ·go_simp
             rfl
            refine hK.out _ _ ?_
            clear hK K
            refine done_ (by kernel_rfl) ?_
            go_wp2_with fail
            go_meet
            case rel => exact ⟨b7, rfl, ⟨blk_put (cs := #[.int .i64 Y.f1, .int .i64 0]) (blk_put (cs := #[.int .i64 0, .int .i64 0]) XV7.out 0 _ rfl) 1 _ rfl⟩, ⟨Kd.R_mono (Kd.R_far (p := ⟨b7, 1, none⟩) (Kd.R_far (p := ⟨b7, 0, none⟩) (Kd.R_types RX.out XV7.out (by decide)) (fun _ hk => hk.2) _) (fun _ hk => hk.2) _) (fun _ _ => trivial)⟩, ⟨below_set (below_set HB.out GEXV7.out) GEXV7.out⟩, ⟨blk_far (p := ⟨b7, 1, none⟩) (blk_far (p := ⟨b7, 0, none⟩) XA.out NEXAXV7.out _) NEXAXV7.out _⟩, ⟨blk_far (p := ⟨b7, 1, none⟩) (blk_far (p := ⟨b7, 0, none⟩) XB.out NEXBXV7.out _) NEXBXV7.out _⟩⟩
           skip
           refine value_ (w1 := ?_) (v := ?_) (by rfl) rfl ?_ ?_
           rotate_left 2
           ·go_simp
            constructor
            ·rfl
            rfl
           have hb : Below u6.heap.size u6 (u6.alloc (Obj.cells #[.int .i64 0, .int .i64 0] 116)) := below_alloc (Below.refl _ _) _
           have XV7 := Aside0.mk (blk_new u6 (Obj.cells #[.int .i64 0, .int .i64 0] 116))
           have GEXV7 := Aside0.mk HB.out.size
           have NEXAXV7 := Aside0.mk (Nat.ne_of_lt (blk_lt XA.out))
           have NEXBXV7 := Aside0.mk (Nat.ne_of_lt (blk_lt XB.out))
           replace HB := Aside0.mk (show Below w.heap.size w _ from below_step HB.out hb)
           replace XA := Aside0.mk (keepB hb XA.out)
           replace XB := Aside0.mk (keepB hb XB.out)
           replace RX := Aside0.mk (Kd.R_below RX.out hb)
           clear hb
           generalize u6.alloc (Obj.cells #[.int .i64 0, .int .i64 0] 116) = u7 at HB XV7 XA XB RX ⊢
           generalize hb7 : u6.heap.size = b7 at XV7 GEXV7 NEXAXV7 NEXBXV7 ⊢
           clear hb7
           refine hK.out _ _ ⟨(blk_cell XA.out 2).trans rfl, xi RX i0 C1 HID⟩ (fun hHeld => ?_)
           clear hK K
           refine zn 7 ?_
           refine z1 8 (some 52) (fun K hK => ?_)
           refine zg Try.func81 #[.pointer (some (ad.add (ja.toNat * 5)))] ?_
           with_reducible refine (spec_l6View.at (ad.add (ja.toNat * 5)) Y.f0 Y.f1 _ (pw_cell_below HB.out HW0.out) (pw_cell_below HB.out HW1.out)).mono ?_
           rintro e u8 ⟨rfl, hb⟩
           refine ⟨_, rfl, ?_⟩
           replace HB := Aside0.mk (show Below w.heap.size w _ from below_step HB.out hb)
           replace XA := Aside0.mk (keepB hb XA.out)
           replace XB := Aside0.mk (keepB hb XB.out)
           replace RX := Aside0.mk (Kd.R_below RX.out hb)
           replace XV7 := Aside0.mk (keepB hb XV7.out)
           clear hb
           refine hK.out _ _ ⟨(blk_cell XA.out 2).trans rfl, xi RX i0 C1 HID⟩ (fun hHeld => ?_)
           clear hK K
           refine zn 52 ?_
           have cR_0 : u8.cell? ⟨b7, 0, none⟩ = some (.int .i64 0) := (blk_cell XV7.out 0).trans rfl
           have cR_1 : u8.cell? ⟨b7, 1, none⟩ = some (.int .i64 0) := (blk_cell XV7.out 1).trans rfl
           have fR_0 : u8.frozen? ⟨b7, 0, none⟩ = false := blk_frozen XV7.out 0
           have fR_1 : u8.frozen? ⟨b7, 1, none⟩ = false := blk_frozen XV7.out 1
           refine last_ (i := 10) (N := none) #[true, true, true, true, true, true, true, true, true, true, true] rfl rfl (by kernel_rfl) (by decide) (fun K hK => ?_)
           refine skip_ (w1 := ?_) (by rfl) rfl ?_ ?_
           rotate_left
           ·go_simp
            rfl
           refine hK.out _ _ ?_
           clear hK K
           refine done_ (by kernel_rfl) ?_
           go_wp2_with fail
           go_meet
           case rel => exact ⟨b7, rfl, ⟨blk_put (cs := #[.int .i64 Y.f1, .int .i64 0]) (blk_put (cs := #[.int .i64 0, .int .i64 0]) XV7.out 0 _ rfl) 1 _ rfl⟩, ⟨Kd.R_mono (Kd.R_far (p := ⟨b7, 1, none⟩) (Kd.R_far (p := ⟨b7, 0, none⟩) (Kd.R_types RX.out XV7.out (by decide)) (fun _ hk => hk.2) _) (fun _ hk => hk.2) _) (fun _ _ => trivial)⟩, ⟨below_set (below_set HB.out GEXV7.out) GEXV7.out⟩, ⟨blk_far (p := ⟨b7, 1, none⟩) (blk_far (p := ⟨b7, 0, none⟩) XA.out NEXAXV7.out _) NEXAXV7.out _⟩, ⟨blk_far (p := ⟨b7, 1, none⟩) (blk_far (p := ⟨b7, 0, none⟩) XB.out NEXBXV7.out _) NEXBXV7.out _⟩⟩
          skip
          refine value_ (w1 := ?_) (v := ?_) (by rfl) rfl ?_ ?_
          rotate_left 2
          ·go_simp
           constructor
           ·rfl
           rfl
          have hb : Below u6.heap.size u6 (u6.alloc (Obj.cells #[.int .i64 0, .int .i64 0] 116)) := below_alloc (Below.refl _ _) _
          have XV7 := Aside0.mk (blk_new u6 (Obj.cells #[.int .i64 0, .int .i64 0] 116))
          have GEXV7 := Aside0.mk HB.out.size
          have NEXAXV7 := Aside0.mk (Nat.ne_of_lt (blk_lt XA.out))
          have NEXBXV7 := Aside0.mk (Nat.ne_of_lt (blk_lt XB.out))
          replace HB := Aside0.mk (show Below w.heap.size w _ from below_step HB.out hb)
          replace XA := Aside0.mk (keepB hb XA.out)
          replace XB := Aside0.mk (keepB hb XB.out)
          replace RX := Aside0.mk (Kd.R_below RX.out hb)
          clear hb
          generalize u6.alloc (Obj.cells #[.int .i64 0, .int .i64 0] 116) = u7 at HB XV7 XA XB RX ⊢
          generalize hb7 : u6.heap.size = b7 at XV7 GEXV7 NEXAXV7 NEXBXV7 ⊢
          clear hb7
          refine hK.out _ _ ⟨(blk_cell XA.out 2).trans rfl, xi RX i0 C1 HID⟩ (fun hHeld => ?_)
          clear hK K
          refine zn 7 ?_
          refine z1 6 (some 50) (fun K hK => ?_)
          refine zg Try.func98 #[.pointer (some ⟨w.heap.size, 0, none⟩), .int .i64 id] ?_
          with_reducible refine (spec_l6Txn.at ⟨w.heap.size, 0, none⟩ _ c2 l2 id _ ((blk_cell XA.out 2).trans rfl) (Kd.C_below HR2.out HB.out)).mono ?_
          rintro e w_ ⟨rfl, rfl⟩
          rw [← HJA.out]
          refine ⟨_, rfl, ?_⟩
          refine hK.out _ _ ⟨(blk_cell XA.out 2).trans rfl, xi RX i0 C1 HID⟩ (fun hHeld => ?_)
          clear hK K
          refine zn 50 ?_
          refine zp 7 51 ?_
          refine z1 8 (some 52) (fun K hK => ?_)
          refine zg Try.func81 #[.pointer (some (ad.add (ja.toNat * 5)))] ?_
          with_reducible refine (spec_l6View.at (ad.add (ja.toNat * 5)) Y.f0 Y.f1 _ (pw_cell_below HB.out HW0.out) (pw_cell_below HB.out HW1.out)).mono ?_
          rintro e u8 ⟨rfl, hb⟩
          refine ⟨_, rfl, ?_⟩
          replace HB := Aside0.mk (show Below w.heap.size w _ from below_step HB.out hb)
          replace XA := Aside0.mk (keepB hb XA.out)
          replace XB := Aside0.mk (keepB hb XB.out)
          replace RX := Aside0.mk (Kd.R_below RX.out hb)
          replace XV7 := Aside0.mk (keepB hb XV7.out)
          clear hb
          refine hK.out _ _ ⟨(blk_cell XA.out 2).trans rfl, xi RX i0 C1 HID⟩ (fun hHeld => ?_)
          clear hK K
          refine zn 52 ?_
          have cR_0 : u8.cell? ⟨b7, 0, none⟩ = some (.int .i64 0) := (blk_cell XV7.out 0).trans rfl
          have cR_1 : u8.cell? ⟨b7, 1, none⟩ = some (.int .i64 0) := (blk_cell XV7.out 1).trans rfl
          have fR_0 : u8.frozen? ⟨b7, 0, none⟩ = false := blk_frozen XV7.out 0
          have fR_1 : u8.frozen? ⟨b7, 1, none⟩ = false := blk_frozen XV7.out 1
          refine last_ (i := 10) (N := none) #[true, true, true, true, true, true, true, true, true, true, true] rfl rfl (by kernel_rfl) (by decide) (fun K hK => ?_)
          refine skip_ (w1 := ?_) (by rfl) rfl ?_ ?_
          rotate_left
          ·go_simp
           rfl
          refine hK.out _ _ ?_
          clear hK K
          refine done_ (by kernel_rfl) ?_
          go_wp2_with fail
          go_meet
          case rel => exact ⟨b7, rfl, ⟨blk_put (cs := #[.int .i64 Y.f1, .int .i64 0]) (blk_put (cs := #[.int .i64 0, .int .i64 0]) XV7.out 0 _ rfl) 1 _ rfl⟩, ⟨Kd.R_mono (Kd.R_far (p := ⟨b7, 1, none⟩) (Kd.R_far (p := ⟨b7, 0, none⟩) (Kd.R_types RX.out XV7.out (by decide)) (fun _ hk => hk.2) _) (fun _ hk => hk.2) _) (fun _ _ => trivial)⟩, ⟨below_set (below_set HB.out GEXV7.out) GEXV7.out⟩, ⟨blk_far (p := ⟨b7, 1, none⟩) (blk_far (p := ⟨b7, 0, none⟩) XA.out NEXAXV7.out _) NEXAXV7.out _⟩, ⟨blk_far (p := ⟨b7, 1, none⟩) (blk_far (p := ⟨b7, 0, none⟩) XB.out NEXBXV7.out _) NEXBXV7.out _⟩⟩
         case rest =>
          clear HB RX XA XB
          obtain ⟨b7, rfl, XV7, RX, HB, XA, XB⟩ := hcut
          go_upto_region 10 with fail
          go_cut [8] (fun v8 wc => ∃ b8, v8 = .pointer (some ⟨b8, 0, none⟩) ∧ Aside0 (wc.heap[b8]? = some (Obj.cells #[.int .i64 Z.f1, .int .i64 Z.f0] 116)) ∧ Aside0 (Kd.R (Kd.int .i64) 2 wc w.heap.size (fun _ => True) (.slice (some ax) x.length cRX) x) ∧ Aside0 (Below w.heap.size w wc) ∧ Aside0 (wc.heap[w.heap.size]? = some (Obj.cells #[.int .i64 a0_0, .int .i64 a0_1, .slice (some ad) l2.length c2, .slice A3 l3.length c3] 31)) ∧ Aside0 (wc.heap[w.heap.size + 1]? = some (Obj.cells #[.int .i64 b0_0, .int .i64 b0_1, .slice (some bd) m2.length d2, .slice B3 m3.length d3] 31)) ∧ Aside0 (wc.heap[b7]? = some (Obj.cells #[.int .i64 Y.f1, .int .i64 Y.f0] 116)))
          case first =>
           refine start_ (n := 11) (S := fun W_ => W_.cell? ⟨w.heap.size + 1, 2, none⟩ = some (.slice (some bd) m2.length d2) ∧ W_.cell? (ax.add i.toNat) = some (.int .i64 id)) (ds := [10]) #[false, false, false, false, false, false, false, false, false, false, false] (by kernel_rfl) rfl rfl ⟨(blk_cell XB.out 2).trans rfl, xi RX i0 C1 HID⟩ (fun hHeld => ?_)
           replace HB := Aside0.mk (below_drew1 HB.out)
           replace XA := Aside0.mk (blk_drew XA.out)
           replace XB := Aside0.mk (blk_drew XB.out)
           replace RX := Aside0.mk (Kd.R_drew RX.out)
           replace XV7 := Aside0.mk (blk_drew XV7.out)
           generalize wc.drew = u6 at HB hHeld XA XB RX XV7 ⊢
           refine zp 0 53 ?_; refine zp 2 55 ?_; refine zp 3 56 ?_; refine zp 4 57 ?_; refine zt 1 54 ?_; refine zt 5 58 ?_
           refine two_ (i := 6) (j := 9) (Ni := some 59) (Nj := some 8) #[true, true, true, true, true, true, true, false, false, false, false] #[true, true, true, true, true, true, false, false, false, true, false] rfl rfl rfl rfl (by kernel_rfl) (by decide) (by decide) (fun K hK => ?_) (fun K hK => ?_)
           ·skip
            refine zg Try.func98 #[.pointer (some ⟨w.heap.size + 1, 0, none⟩), .int .i64 id] ?_
            with_reducible refine (spec_l6Txn.at ⟨w.heap.size + 1, 0, none⟩ _ d2 m2 id _ ((blk_cell XB.out 2).trans rfl) (Kd.C_below HS2.out HB.out)).mono ?_
            rintro e w_ ⟨rfl, rfl⟩
            rw [← HJB.out]
            refine ⟨_, rfl, ?_⟩
            refine hK.out _ _ ⟨(blk_cell XB.out 2).trans rfl, xi RX i0 C1 HID⟩ (fun hHeld => ?_)
            clear hK K
            refine zn 59 ?_
            refine zp 7 60 ?_
            refine two_ (i := 8) (j := 9) (Ni := some 61) (Nj := some 8) #[true, true, true, true, true, true, true, true, true, false, false] #[true, true, true, true, true, true, true, true, false, true, false] rfl rfl rfl rfl (by kernel_rfl) (by decide) (by decide) (fun K hK => ?_) (fun K hK => ?_)
            ·skip
             refine zg Try.func81 #[.pointer (some (bd.add (jb.toNat * 5)))] ?_
             with_reducible refine (spec_l6View.at (bd.add (jb.toNat * 5)) Z.f0 Z.f1 _ (pw_cell_below HB.out HV0.out) (pw_cell_below HB.out HV1.out)).mono ?_
             rintro e u7 ⟨rfl, hb⟩
             refine ⟨_, rfl, ?_⟩
             replace HB := Aside0.mk (show Below w.heap.size w _ from below_step HB.out hb)
             replace XA := Aside0.mk (keepB hb XA.out)
             replace XB := Aside0.mk (keepB hb XB.out)
             replace RX := Aside0.mk (Kd.R_below RX.out hb)
             replace XV7 := Aside0.mk (keepB hb XV7.out)
             clear hb
             refine hK.out _ _ ⟨(blk_cell XB.out 2).trans rfl, xi RX i0 C1 HID⟩ (fun hHeld => ?_)
             clear hK K
             refine zn 61 ?_
             refine z1 9 (some 8) (fun K hK => ?_)
             refine value_ (w1 := ?_) (v := ?_) (by rfl) rfl ?_ ?_
             rotate_left 2
             ·go_simp
              constructor
              ·rfl
              rfl
             have hb : Below u7.heap.size u7 (u7.alloc (Obj.cells #[.int .i64 0, .int .i64 0] 116)) := below_alloc (Below.refl _ _) _
             have XV8 := Aside0.mk (blk_new u7 (Obj.cells #[.int .i64 0, .int .i64 0] 116))
             have GEXV8 := Aside0.mk HB.out.size
             have NEXAXV8 := Aside0.mk (Nat.ne_of_lt (blk_lt XA.out))
             have NEXBXV8 := Aside0.mk (Nat.ne_of_lt (blk_lt XB.out))
             have NEXV7XV8 := Aside0.mk (Nat.ne_of_lt (blk_lt XV7.out))
             replace HB := Aside0.mk (show Below w.heap.size w _ from below_step HB.out hb)
             replace XA := Aside0.mk (keepB hb XA.out)
             replace XB := Aside0.mk (keepB hb XB.out)
             replace RX := Aside0.mk (Kd.R_below RX.out hb)
             replace XV7 := Aside0.mk (keepB hb XV7.out)
             clear hb
             generalize u7.alloc (Obj.cells #[.int .i64 0, .int .i64 0] 116) = u8 at HB XV8 XA XB RX XV7 ⊢
             generalize hb8 : u7.heap.size = b8 at XV8 GEXV8 NEXAXV8 NEXBXV8 NEXV7XV8 ⊢
             clear hb8
             refine hK.out _ _ ⟨(blk_cell XB.out 2).trans rfl, xi RX i0 C1 HID⟩ (fun hHeld => ?_)
             clear hK K
             refine zn 8 ?_
             have cR_0 : u8.cell? ⟨b8, 0, none⟩ = some (.int .i64 0) := (blk_cell XV8.out 0).trans rfl
             have cR_1 : u8.cell? ⟨b8, 1, none⟩ = some (.int .i64 0) := (blk_cell XV8.out 1).trans rfl
             have fR_0 : u8.frozen? ⟨b8, 0, none⟩ = false := blk_frozen XV8.out 0
             have fR_1 : u8.frozen? ⟨b8, 1, none⟩ = false := blk_frozen XV8.out 1
             refine last_ (i := 10) (N := none) #[true, true, true, true, true, true, true, true, true, true, true] rfl rfl (by kernel_rfl) (by decide) (fun K hK => ?_)
             refine skip_ (w1 := ?_) (by rfl) rfl ?_ ?_
             rotate_left
             ·go_simp
              rfl
             refine hK.out _ _ ?_
             clear hK K
             refine done_ (by kernel_rfl) ?_
             go_wp2_with fail
             go_meet
             case rel => exact ⟨b8, rfl, ⟨blk_put (cs := #[.int .i64 Z.f1, .int .i64 0]) (blk_put (cs := #[.int .i64 0, .int .i64 0]) XV8.out 0 _ rfl) 1 _ rfl⟩, ⟨Kd.R_mono (Kd.R_far (p := ⟨b8, 1, none⟩) (Kd.R_far (p := ⟨b8, 0, none⟩) (Kd.R_types RX.out XV8.out (by decide)) (fun _ hk => hk.2) _) (fun _ hk => hk.2) _) (fun _ _ => trivial)⟩, ⟨below_set (below_set HB.out GEXV8.out) GEXV8.out⟩, ⟨blk_far (p := ⟨b8, 1, none⟩) (blk_far (p := ⟨b8, 0, none⟩) XA.out NEXAXV8.out _) NEXAXV8.out _⟩, ⟨blk_far (p := ⟨b8, 1, none⟩) (blk_far (p := ⟨b8, 0, none⟩) XB.out NEXBXV8.out _) NEXBXV8.out _⟩, ⟨blk_far (p := ⟨b8, 1, none⟩) (blk_far (p := ⟨b8, 0, none⟩) XV7.out NEXV7XV8.out _) NEXV7XV8.out _⟩⟩
            skip
            refine value_ (w1 := ?_) (v := ?_) (by rfl) rfl ?_ ?_
            rotate_left 2
            ·go_simp
             constructor
             ·rfl
             rfl
            have hb : Below u6.heap.size u6 (u6.alloc (Obj.cells #[.int .i64 0, .int .i64 0] 116)) := below_alloc (Below.refl _ _) _
            have XV8 := Aside0.mk (blk_new u6 (Obj.cells #[.int .i64 0, .int .i64 0] 116))
            have GEXV8 := Aside0.mk HB.out.size
            have NEXAXV8 := Aside0.mk (Nat.ne_of_lt (blk_lt XA.out))
            have NEXBXV8 := Aside0.mk (Nat.ne_of_lt (blk_lt XB.out))
            have NEXV7XV8 := Aside0.mk (Nat.ne_of_lt (blk_lt XV7.out))
            replace HB := Aside0.mk (show Below w.heap.size w _ from below_step HB.out hb)
            replace XA := Aside0.mk (keepB hb XA.out)
            replace XB := Aside0.mk (keepB hb XB.out)
            replace RX := Aside0.mk (Kd.R_below RX.out hb)
            replace XV7 := Aside0.mk (keepB hb XV7.out)
            clear hb
            generalize u6.alloc (Obj.cells #[.int .i64 0, .int .i64 0] 116) = u7 at HB XV8 XA XB RX XV7 ⊢
            generalize hb8 : u6.heap.size = b8 at XV8 GEXV8 NEXAXV8 NEXBXV8 NEXV7XV8 ⊢
            clear hb8
            refine hK.out _ _ ⟨(blk_cell XB.out 2).trans rfl, xi RX i0 C1 HID⟩ (fun hHeld => ?_)
            clear hK K
            refine zn 8 ?_
            refine z1 8 (some 61) (fun K hK => ?_)
            refine zg Try.func81 #[.pointer (some (bd.add (jb.toNat * 5)))] ?_
            with_reducible refine (spec_l6View.at (bd.add (jb.toNat * 5)) Z.f0 Z.f1 _ (pw_cell_below HB.out HV0.out) (pw_cell_below HB.out HV1.out)).mono ?_
            rintro e u8 ⟨rfl, hb⟩
            refine ⟨_, rfl, ?_⟩
            replace HB := Aside0.mk (show Below w.heap.size w _ from below_step HB.out hb)
            replace XA := Aside0.mk (keepB hb XA.out)
            replace XB := Aside0.mk (keepB hb XB.out)
            replace RX := Aside0.mk (Kd.R_below RX.out hb)
            replace XV7 := Aside0.mk (keepB hb XV7.out)
            replace XV8 := Aside0.mk (keepB hb XV8.out)
            clear hb
            refine hK.out _ _ ⟨(blk_cell XB.out 2).trans rfl, xi RX i0 C1 HID⟩ (fun hHeld => ?_)
            clear hK K
            refine zn 61 ?_
            have cR_0 : u8.cell? ⟨b8, 0, none⟩ = some (.int .i64 0) := (blk_cell XV8.out 0).trans rfl
            have cR_1 : u8.cell? ⟨b8, 1, none⟩ = some (.int .i64 0) := (blk_cell XV8.out 1).trans rfl
            have fR_0 : u8.frozen? ⟨b8, 0, none⟩ = false := blk_frozen XV8.out 0
            have fR_1 : u8.frozen? ⟨b8, 1, none⟩ = false := blk_frozen XV8.out 1
            refine last_ (i := 10) (N := none) #[true, true, true, true, true, true, true, true, true, true, true] rfl rfl (by kernel_rfl) (by decide) (fun K hK => ?_)
            refine skip_ (w1 := ?_) (by rfl) rfl ?_ ?_
            rotate_left
            ·go_simp
             rfl
            refine hK.out _ _ ?_
            clear hK K
            refine done_ (by kernel_rfl) ?_
            go_wp2_with fail
            go_meet
            case rel => exact ⟨b8, rfl, ⟨blk_put (cs := #[.int .i64 Z.f1, .int .i64 0]) (blk_put (cs := #[.int .i64 0, .int .i64 0]) XV8.out 0 _ rfl) 1 _ rfl⟩, ⟨Kd.R_mono (Kd.R_far (p := ⟨b8, 1, none⟩) (Kd.R_far (p := ⟨b8, 0, none⟩) (Kd.R_types RX.out XV8.out (by decide)) (fun _ hk => hk.2) _) (fun _ hk => hk.2) _) (fun _ _ => trivial)⟩, ⟨below_set (below_set HB.out GEXV8.out) GEXV8.out⟩, ⟨blk_far (p := ⟨b8, 1, none⟩) (blk_far (p := ⟨b8, 0, none⟩) XA.out NEXAXV8.out _) NEXAXV8.out _⟩, ⟨blk_far (p := ⟨b8, 1, none⟩) (blk_far (p := ⟨b8, 0, none⟩) XB.out NEXBXV8.out _) NEXBXV8.out _⟩, ⟨blk_far (p := ⟨b8, 1, none⟩) (blk_far (p := ⟨b8, 0, none⟩) XV7.out NEXV7XV8.out _) NEXV7XV8.out _⟩⟩
           skip
           refine value_ (w1 := ?_) (v := ?_) (by rfl) rfl ?_ ?_
           rotate_left 2
           ·go_simp
            constructor
            ·rfl
            rfl
           have hb : Below u6.heap.size u6 (u6.alloc (Obj.cells #[.int .i64 0, .int .i64 0] 116)) := below_alloc (Below.refl _ _) _
           have XV8 := Aside0.mk (blk_new u6 (Obj.cells #[.int .i64 0, .int .i64 0] 116))
           have GEXV8 := Aside0.mk HB.out.size
           have NEXAXV8 := Aside0.mk (Nat.ne_of_lt (blk_lt XA.out))
           have NEXBXV8 := Aside0.mk (Nat.ne_of_lt (blk_lt XB.out))
           have NEXV7XV8 := Aside0.mk (Nat.ne_of_lt (blk_lt XV7.out))
           replace HB := Aside0.mk (show Below w.heap.size w _ from below_step HB.out hb)
           replace XA := Aside0.mk (keepB hb XA.out)
           replace XB := Aside0.mk (keepB hb XB.out)
           replace RX := Aside0.mk (Kd.R_below RX.out hb)
           replace XV7 := Aside0.mk (keepB hb XV7.out)
           clear hb
           generalize u6.alloc (Obj.cells #[.int .i64 0, .int .i64 0] 116) = u7 at HB XV8 XA XB RX XV7 ⊢
           generalize hb8 : u6.heap.size = b8 at XV8 GEXV8 NEXAXV8 NEXBXV8 NEXV7XV8 ⊢
           clear hb8
           refine hK.out _ _ ⟨(blk_cell XB.out 2).trans rfl, xi RX i0 C1 HID⟩ (fun hHeld => ?_)
           clear hK K
           refine zn 8 ?_
           refine z1 6 (some 59) (fun K hK => ?_)
           refine zg Try.func98 #[.pointer (some ⟨w.heap.size + 1, 0, none⟩), .int .i64 id] ?_
           with_reducible refine (spec_l6Txn.at ⟨w.heap.size + 1, 0, none⟩ _ d2 m2 id _ ((blk_cell XB.out 2).trans rfl) (Kd.C_below HS2.out HB.out)).mono ?_
           rintro e w_ ⟨rfl, rfl⟩
           rw [← HJB.out]
           refine ⟨_, rfl, ?_⟩
           refine hK.out _ _ ⟨(blk_cell XB.out 2).trans rfl, xi RX i0 C1 HID⟩ (fun hHeld => ?_)
           clear hK K
           refine zn 59 ?_
           refine zp 7 60 ?_
           refine z1 8 (some 61) (fun K hK => ?_)
           refine zg Try.func81 #[.pointer (some (bd.add (jb.toNat * 5)))] ?_
           with_reducible refine (spec_l6View.at (bd.add (jb.toNat * 5)) Z.f0 Z.f1 _ (pw_cell_below HB.out HV0.out) (pw_cell_below HB.out HV1.out)).mono ?_
           rintro e u8 ⟨rfl, hb⟩
           refine ⟨_, rfl, ?_⟩
           replace HB := Aside0.mk (show Below w.heap.size w _ from below_step HB.out hb)
           replace XA := Aside0.mk (keepB hb XA.out)
           replace XB := Aside0.mk (keepB hb XB.out)
           replace RX := Aside0.mk (Kd.R_below RX.out hb)
           replace XV7 := Aside0.mk (keepB hb XV7.out)
           replace XV8 := Aside0.mk (keepB hb XV8.out)
           clear hb
           refine hK.out _ _ ⟨(blk_cell XB.out 2).trans rfl, xi RX i0 C1 HID⟩ (fun hHeld => ?_)
           clear hK K
           refine zn 61 ?_
           have cR_0 : u8.cell? ⟨b8, 0, none⟩ = some (.int .i64 0) := (blk_cell XV8.out 0).trans rfl
           have cR_1 : u8.cell? ⟨b8, 1, none⟩ = some (.int .i64 0) := (blk_cell XV8.out 1).trans rfl
           have fR_0 : u8.frozen? ⟨b8, 0, none⟩ = false := blk_frozen XV8.out 0
           have fR_1 : u8.frozen? ⟨b8, 1, none⟩ = false := blk_frozen XV8.out 1
           refine last_ (i := 10) (N := none) #[true, true, true, true, true, true, true, true, true, true, true] rfl rfl (by kernel_rfl) (by decide) (fun K hK => ?_)
           refine skip_ (w1 := ?_) (by rfl) rfl ?_ ?_
           rotate_left
           ·go_simp
            rfl
           refine hK.out _ _ ?_
           clear hK K
           refine done_ (by kernel_rfl) ?_
           go_wp2_with fail
           go_meet
           case rel => exact ⟨b8, rfl, ⟨blk_put (cs := #[.int .i64 Z.f1, .int .i64 0]) (blk_put (cs := #[.int .i64 0, .int .i64 0]) XV8.out 0 _ rfl) 1 _ rfl⟩, ⟨Kd.R_mono (Kd.R_far (p := ⟨b8, 1, none⟩) (Kd.R_far (p := ⟨b8, 0, none⟩) (Kd.R_types RX.out XV8.out (by decide)) (fun _ hk => hk.2) _) (fun _ hk => hk.2) _) (fun _ _ => trivial)⟩, ⟨below_set (below_set HB.out GEXV8.out) GEXV8.out⟩, ⟨blk_far (p := ⟨b8, 1, none⟩) (blk_far (p := ⟨b8, 0, none⟩) XA.out NEXAXV8.out _) NEXAXV8.out _⟩, ⟨blk_far (p := ⟨b8, 1, none⟩) (blk_far (p := ⟨b8, 0, none⟩) XB.out NEXBXV8.out _) NEXBXV8.out _⟩, ⟨blk_far (p := ⟨b8, 1, none⟩) (blk_far (p := ⟨b8, 0, none⟩) XV7.out NEXV7XV8.out _) NEXV7XV8.out _⟩⟩
          case rest =>
           clear HB RX XA XB XV7
           obtain ⟨b8, rfl, XV8, RX, HB, XA, XB, XV7⟩ := hcut
           go_upto_region 11 with fail
           cases q with
           | false =>
            have h := H2.out
            rw [if_neg (by decide)] at h
            obtain rfl := Option.some.inj h
            clear H2 h
            refine start_ (n := 14) (S := fun W_ => W_.cell? ⟨b7, 0, none⟩ = some (.int .i64 Y.f1) ∧ W_.cell? ⟨b7, 1, none⟩ = some (.int .i64 Y.f0) ∧ W_.cell? ⟨b8, 0, none⟩ = some (.int .i64 Z.f1) ∧ W_.cell? ⟨b8, 1, none⟩ = some (.int .i64 Z.f0)) (ds := []) #[false, false, false, false, false, false, false, false, false, false, false, false, false, false] (by kernel_rfl) rfl rfl ⟨(blk_cell XV7.out 0).trans rfl, (blk_cell XV7.out 1).trans rfl, (blk_cell XV8.out 0).trans rfl, (blk_cell XV8.out 1).trans rfl⟩ (fun hHeld => ?_)
            replace HB := Aside0.mk (below_drew1 HB.out)
            replace XA := Aside0.mk (blk_drew XA.out)
            replace XB := Aside0.mk (blk_drew XB.out)
            replace RX := Aside0.mk (Kd.R_drew RX.out)
            replace XV7 := Aside0.mk (blk_drew XV7.out)
            replace XV8 := Aside0.mk (blk_drew XV8.out)
            generalize wc.drew = u6 at HB hHeld XA XB RX XV7 XV8 ⊢
            refine zt 0 62 ?_; refine zt 2 64 ?_
            refine z1 1 (some 63) (fun K hK => ?_)
            refine zg Try.func100 #[.pointer (some ⟨w.heap.size, 0, none⟩), .agg #[.int .i64 Y.f1, .int .i64 Y.f0], .int .i64 0, .int .i64 31] ?_
            with_reducible refine (spec_l6Scan.at (g := w.heap.size) k1 a0_0 a0_1 _ c2 l2 A3 c3 l3 Y.f1 Y.f0 0 31 sc _ (Kd.C_below HR2.out HB.out) HC2.out (Kd.C_below HR3.out HB.out) HC3.out HSC.out XA).mono ?_
            rintro e u7 ⟨v1, rfl, hr, hb⟩
            refine ⟨_, rfl, ?_⟩
            have hz_ := HB.out.size
            replace HB := Aside0.mk (show Below w.heap.size w _ from below_step HB.out hb)
            replace XA := Aside0.mk (keepB hb XA.out)
            replace XB := Aside0.mk (keepB hb XB.out)
            replace RX := Aside0.mk (Kd.R_below RX.out hb)
            replace XV7 := Aside0.mk (keepB hb XV7.out)
            replace XV8 := Aside0.mk (keepB hb XV8.out)
            clear hb
            obtain ⟨ARC, cRC, eRC⟩ := Kd.R_slice hr
            subst eRC
            have RC := Aside0.mk (show Kd.R k105 105 u7 w.heap.size (fun _ => True) (.slice ARC sc.length cRC) sc from Kd.R_lower hr hz_)
            clear hr
            clear hz_
            refine hK.out _ _ ⟨(blk_cell XV7.out 0).trans rfl, (blk_cell XV7.out 1).trans rfl, (blk_cell XV8.out 0).trans rfl, (blk_cell XV8.out 1).trans rfl⟩ (fun hHeld => ?_)
            clear hK K
            refine zn 63 ?_
            refine z1 3 (some 65) (fun K hK => ?_)
            refine zg Try.func100 #[.pointer (some ⟨w.heap.size + 1, 0, none⟩), .agg #[.int .i64 Z.f1, .int .i64 Z.f0], .int .i64 0, .int .i64 31] ?_
            with_reducible refine (spec_l6Scan.at (g := w.heap.size + 1) k1 b0_0 b0_1 _ d2 m2 B3 d3 m3 Z.f1 Z.f0 0 31 sd _ (Kd.C_below HS2.out HB.out) HD2.out (Kd.C_below HS3.out HB.out) HD3.out HSD.out XB).mono ?_
            rintro e u8 ⟨v1, rfl, hr, hb⟩
            refine ⟨_, rfl, ?_⟩
            have hz_ := HB.out.size
            replace HB := Aside0.mk (show Below w.heap.size w _ from below_step HB.out hb)
            replace XA := Aside0.mk (keepB hb XA.out)
            replace XB := Aside0.mk (keepB hb XB.out)
            replace RX := Aside0.mk (Kd.R_below RX.out hb)
            replace XV7 := Aside0.mk (keepB hb XV7.out)
            replace XV8 := Aside0.mk (keepB hb XV8.out)
            replace RC := Aside0.mk (Kd.R_below RC.out hb)
            clear hb
            obtain ⟨ARD, cRD, eRD⟩ := Kd.R_slice hr
            subst eRD
            have RD := Aside0.mk (show Kd.R k105 105 u8 w.heap.size (fun _ => True) (.slice ARD sd.length cRD) sd from Kd.R_lower hr hz_)
            clear hr
            clear hz_
            refine hK.out _ _ ⟨(blk_cell XV7.out 0).trans rfl, (blk_cell XV7.out 1).trans rfl, (blk_cell XV8.out 0).trans rfl, (blk_cell XV8.out 1).trans rfl⟩ (fun hHeld => ?_)
            clear hK K
            refine zn 65 ?_
            refine z1 4 (some 66) (fun K hK => ?_)
            refine zg Try.func99 #[.slice ARC sc.length cRC, .slice ARD sd.length cRD] ?_
            with_reducible refine (spec_l7Cells.calls k1 _ _ sc _ _ sd _ _ (Kd.R_reads' RC.out).2.2 (Kd.R_reads' RC.out).2.1 (Kd.R_reads' RD.out).2.2 (Kd.R_reads' RD.out).2.1 HQ2.out).mono ?_
            rintro e u9 ⟨rfl, hd⟩
            refine ⟨_, rfl, ?_⟩
            have hb : Below u8.heap.size u8 u9 := by obtain ⟨n_, rfl⟩ := hd.out; exact pw_below_drewN (Below.refl _ _) n_
            clear hd
            replace HB := Aside0.mk (show Below w.heap.size w _ from below_step HB.out hb)
            replace XA := Aside0.mk (keepB hb XA.out)
            replace XB := Aside0.mk (keepB hb XB.out)
            replace RX := Aside0.mk (Kd.R_below RX.out hb)
            replace XV7 := Aside0.mk (keepB hb XV7.out)
            replace XV8 := Aside0.mk (keepB hb XV8.out)
            replace RC := Aside0.mk (Kd.R_below RC.out hb)
            replace RD := Aside0.mk (Kd.R_below RD.out hb)
            clear hb
            refine hK.out _ _ ⟨(blk_cell XV7.out 0).trans rfl, (blk_cell XV7.out 1).trans rfl, (blk_cell XV8.out 0).trans rfl, (blk_cell XV8.out 1).trans rfl⟩ (fun hHeld => ?_)
            clear hK K
            refine zn 66 ?_
            refine zp 5 67 ?_; refine zp 6 68 ?_; refine zo 7 69 ?_; refine zo 8 70 ?_; refine zo 9 71 ?_; refine zo 10 72 ?_; refine zo 11 73 ?_; refine zo 12 74 ?_; refine zp 13 75 ?_
            refine done_ (by kernel_rfl) ?_
            go_wp2_with fail
            go_ret
            exact ⟨rfl, HB.out⟩
           | true =>
            have h := H2.out
            rw [if_pos rfl] at h
            obtain ⟨z, hz, h⟩ := Option.bind_eq_some_iff.mp h
            unfold sameMay at hz
            obtain ⟨pc, hpc, hz⟩ := Option.bind_eq_some_iff.mp hz
            obtain ⟨pd, hpd, hz⟩ := Option.bind_eq_some_iff.mp hz
            have HPC := Aside0.mk hpc
            have HPD := Aside0.mk hpd
            have HZ2 := Aside0.mk hz
            have H3 := Aside0.mk h
            clear H2 h hz hpc hpd
            cases z with
            | false =>
             have h := H3.out
             rw [if_neg (by decide)] at h
             obtain rfl := Option.some.inj h
             clear H3 h
             refine start_ (n := 14) (S := fun W_ => W_.cell? ⟨b7, 0, none⟩ = some (.int .i64 Y.f1) ∧ W_.cell? ⟨b7, 1, none⟩ = some (.int .i64 Y.f0) ∧ W_.cell? ⟨b8, 0, none⟩ = some (.int .i64 Z.f1) ∧ W_.cell? ⟨b8, 1, none⟩ = some (.int .i64 Z.f0)) (ds := []) #[false, false, false, false, false, false, false, false, false, false, false, false, false, false] (by kernel_rfl) rfl rfl ⟨(blk_cell XV7.out 0).trans rfl, (blk_cell XV7.out 1).trans rfl, (blk_cell XV8.out 0).trans rfl, (blk_cell XV8.out 1).trans rfl⟩ (fun hHeld => ?_)
             replace HB := Aside0.mk (below_drew1 HB.out)
             replace XA := Aside0.mk (blk_drew XA.out)
             replace XB := Aside0.mk (blk_drew XB.out)
             replace RX := Aside0.mk (Kd.R_drew RX.out)
             replace XV7 := Aside0.mk (blk_drew XV7.out)
             replace XV8 := Aside0.mk (blk_drew XV8.out)
             generalize wc.drew = u6 at HB hHeld XA XB RX XV7 XV8 ⊢
             refine zt 0 62 ?_; refine zt 2 64 ?_
             refine z1 1 (some 63) (fun K hK => ?_)
             refine zg Try.func100 #[.pointer (some ⟨w.heap.size, 0, none⟩), .agg #[.int .i64 Y.f1, .int .i64 Y.f0], .int .i64 0, .int .i64 31] ?_
             with_reducible refine (spec_l6Scan.at (g := w.heap.size) k1 a0_0 a0_1 _ c2 l2 A3 c3 l3 Y.f1 Y.f0 0 31 sc _ (Kd.C_below HR2.out HB.out) HC2.out (Kd.C_below HR3.out HB.out) HC3.out HSC.out XA).mono ?_
             rintro e u7 ⟨v1, rfl, hr, hb⟩
             refine ⟨_, rfl, ?_⟩
             have hz_ := HB.out.size
             replace HB := Aside0.mk (show Below w.heap.size w _ from below_step HB.out hb)
             replace XA := Aside0.mk (keepB hb XA.out)
             replace XB := Aside0.mk (keepB hb XB.out)
             replace RX := Aside0.mk (Kd.R_below RX.out hb)
             replace XV7 := Aside0.mk (keepB hb XV7.out)
             replace XV8 := Aside0.mk (keepB hb XV8.out)
             clear hb
             obtain ⟨ARC, cRC, eRC⟩ := Kd.R_slice hr
             subst eRC
             have RC := Aside0.mk (show Kd.R k105 105 u7 w.heap.size (fun _ => True) (.slice ARC sc.length cRC) sc from Kd.R_lower hr hz_)
             clear hr
             clear hz_
             refine hK.out _ _ ⟨(blk_cell XV7.out 0).trans rfl, (blk_cell XV7.out 1).trans rfl, (blk_cell XV8.out 0).trans rfl, (blk_cell XV8.out 1).trans rfl⟩ (fun hHeld => ?_)
             clear hK K
             refine zn 63 ?_
             refine z1 3 (some 65) (fun K hK => ?_)
             refine zg Try.func100 #[.pointer (some ⟨w.heap.size + 1, 0, none⟩), .agg #[.int .i64 Z.f1, .int .i64 Z.f0], .int .i64 0, .int .i64 31] ?_
             with_reducible refine (spec_l6Scan.at (g := w.heap.size + 1) k1 b0_0 b0_1 _ d2 m2 B3 d3 m3 Z.f1 Z.f0 0 31 sd _ (Kd.C_below HS2.out HB.out) HD2.out (Kd.C_below HS3.out HB.out) HD3.out HSD.out XB).mono ?_
             rintro e u8 ⟨v1, rfl, hr, hb⟩
             refine ⟨_, rfl, ?_⟩
             have hz_ := HB.out.size
             replace HB := Aside0.mk (show Below w.heap.size w _ from below_step HB.out hb)
             replace XA := Aside0.mk (keepB hb XA.out)
             replace XB := Aside0.mk (keepB hb XB.out)
             replace RX := Aside0.mk (Kd.R_below RX.out hb)
             replace XV7 := Aside0.mk (keepB hb XV7.out)
             replace XV8 := Aside0.mk (keepB hb XV8.out)
             replace RC := Aside0.mk (Kd.R_below RC.out hb)
             clear hb
             obtain ⟨ARD, cRD, eRD⟩ := Kd.R_slice hr
             subst eRD
             have RD := Aside0.mk (show Kd.R k105 105 u8 w.heap.size (fun _ => True) (.slice ARD sd.length cRD) sd from Kd.R_lower hr hz_)
             clear hr
             clear hz_
             refine hK.out _ _ ⟨(blk_cell XV7.out 0).trans rfl, (blk_cell XV7.out 1).trans rfl, (blk_cell XV8.out 0).trans rfl, (blk_cell XV8.out 1).trans rfl⟩ (fun hHeld => ?_)
             clear hK K
             refine zn 65 ?_
             refine z1 4 (some 66) (fun K hK => ?_)
             refine zg Try.func99 #[.slice ARC sc.length cRC, .slice ARD sd.length cRD] ?_
             with_reducible refine (spec_l7Cells.calls k1 _ _ sc _ _ sd _ _ (Kd.R_reads' RC.out).2.2 (Kd.R_reads' RC.out).2.1 (Kd.R_reads' RD.out).2.2 (Kd.R_reads' RD.out).2.1 HQ2.out).mono ?_
             rintro e u9 ⟨rfl, hd⟩
             refine ⟨_, rfl, ?_⟩
             have hb : Below u8.heap.size u8 u9 := by obtain ⟨n_, rfl⟩ := hd.out; exact pw_below_drewN (Below.refl _ _) n_
             clear hd
             replace HB := Aside0.mk (show Below w.heap.size w _ from below_step HB.out hb)
             replace XA := Aside0.mk (keepB hb XA.out)
             replace XB := Aside0.mk (keepB hb XB.out)
             replace RX := Aside0.mk (Kd.R_below RX.out hb)
             replace XV7 := Aside0.mk (keepB hb XV7.out)
             replace XV8 := Aside0.mk (keepB hb XV8.out)
             replace RC := Aside0.mk (Kd.R_below RC.out hb)
             replace RD := Aside0.mk (Kd.R_below RD.out hb)
             clear hb
             refine hK.out _ _ ⟨(blk_cell XV7.out 0).trans rfl, (blk_cell XV7.out 1).trans rfl, (blk_cell XV8.out 0).trans rfl, (blk_cell XV8.out 1).trans rfl⟩ (fun hHeld => ?_)
             clear hK K
             refine zn 66 ?_
             refine zp 5 67 ?_; refine zp 6 68 ?_; refine zt 7 69 ?_; refine zt 9 71 ?_
             refine z1 8 (some 70) (fun K hK => ?_)
             refine zg Try.func101 #[.pointer (some ⟨w.heap.size, 0, none⟩), .agg #[.int .i64 Y.f1, .int .i64 Y.f0]] ?_
             with_reducible refine (spec_l7May.at (g := w.heap.size) k1 a0_0 a0_1 _ c2 l2 A3 c3 l3 Y.f1 Y.f0 pc _ (Kd.C_below HR2.out HB.out) HC2.out (Kd.C_below HR3.out HB.out) HC3.out HPC.out XA).mono ?_
             rintro e u10 ⟨v1, rfl, hr, hb⟩
             refine ⟨_, rfl, ?_⟩
             have hz_ := HB.out.size
             replace HB := Aside0.mk (show Below w.heap.size w _ from below_step HB.out hb)
             replace XA := Aside0.mk (keepB hb XA.out)
             replace XB := Aside0.mk (keepB hb XB.out)
             replace RX := Aside0.mk (Kd.R_below RX.out hb)
             replace XV7 := Aside0.mk (keepB hb XV7.out)
             replace XV8 := Aside0.mk (keepB hb XV8.out)
             replace RC := Aside0.mk (Kd.R_below RC.out hb)
             replace RD := Aside0.mk (Kd.R_below RD.out hb)
             clear hb
             obtain ⟨ARP, cRP, eRP⟩ := Kd.R_slice hr
             subst eRP
             have RP := Aside0.mk (show Kd.R (Kd.int .i64) 2 u10 w.heap.size (fun _ => True) (.slice ARP pc.length cRP) pc from Kd.R_lower hr hz_)
             clear hr
             clear hz_
             refine hK.out _ _ ⟨(blk_cell XV7.out 0).trans rfl, (blk_cell XV7.out 1).trans rfl, (blk_cell XV8.out 0).trans rfl, (blk_cell XV8.out 1).trans rfl⟩ (fun hHeld => ?_)
             clear hK K
             refine zn 70 ?_
             refine z1 10 (some 72) (fun K hK => ?_)
             refine zg Try.func101 #[.pointer (some ⟨w.heap.size + 1, 0, none⟩), .agg #[.int .i64 Z.f1, .int .i64 Z.f0]] ?_
             with_reducible refine (spec_l7May.at (g := w.heap.size + 1) k1 b0_0 b0_1 _ d2 m2 B3 d3 m3 Z.f1 Z.f0 pd _ (Kd.C_below HS2.out HB.out) HD2.out (Kd.C_below HS3.out HB.out) HD3.out HPD.out XB).mono ?_
             rintro e u11 ⟨v1, rfl, hr, hb⟩
             refine ⟨_, rfl, ?_⟩
             have hz_ := HB.out.size
             replace HB := Aside0.mk (show Below w.heap.size w _ from below_step HB.out hb)
             replace XA := Aside0.mk (keepB hb XA.out)
             replace XB := Aside0.mk (keepB hb XB.out)
             replace RX := Aside0.mk (Kd.R_below RX.out hb)
             replace XV7 := Aside0.mk (keepB hb XV7.out)
             replace XV8 := Aside0.mk (keepB hb XV8.out)
             replace RC := Aside0.mk (Kd.R_below RC.out hb)
             replace RD := Aside0.mk (Kd.R_below RD.out hb)
             replace RP := Aside0.mk (Kd.R_below RP.out hb)
             clear hb
             obtain ⟨ARQ, cRQ, eRQ⟩ := Kd.R_slice hr
             subst eRQ
             have RQ := Aside0.mk (show Kd.R (Kd.int .i64) 2 u11 w.heap.size (fun _ => True) (.slice ARQ pd.length cRQ) pd from Kd.R_lower hr hz_)
             clear hr
             clear hz_
             refine hK.out _ _ ⟨(blk_cell XV7.out 0).trans rfl, (blk_cell XV7.out 1).trans rfl, (blk_cell XV8.out 0).trans rfl, (blk_cell XV8.out 1).trans rfl⟩ (fun hHeld => ?_)
             clear hK K
             refine zn 72 ?_
             refine z1 11 (some 73) (fun K hK => ?_)
             refine zg Try.func97 #[.slice ARP pc.length cRP, .slice ARQ pd.length cRQ] ?_
             with_reducible refine (spec_l7Same.calls k1 _ _ pc _ _ pd _ _ (Kd.R_reads' RP.out).2.2 (Kd.R_reads' RP.out).2.1 (Kd.R_reads' RQ.out).2.2 (Kd.R_reads' RQ.out).2.1 HZ2.out).mono ?_
             rintro e u12 ⟨rfl, hd⟩
             refine ⟨_, rfl, ?_⟩
             have hb : Below u11.heap.size u11 u12 := by obtain ⟨n_, rfl⟩ := hd.out; exact pw_below_drewN (Below.refl _ _) n_
             clear hd
             replace HB := Aside0.mk (show Below w.heap.size w _ from below_step HB.out hb)
             replace XA := Aside0.mk (keepB hb XA.out)
             replace XB := Aside0.mk (keepB hb XB.out)
             replace RX := Aside0.mk (Kd.R_below RX.out hb)
             replace XV7 := Aside0.mk (keepB hb XV7.out)
             replace XV8 := Aside0.mk (keepB hb XV8.out)
             replace RC := Aside0.mk (Kd.R_below RC.out hb)
             replace RD := Aside0.mk (Kd.R_below RD.out hb)
             replace RP := Aside0.mk (Kd.R_below RP.out hb)
             replace RQ := Aside0.mk (Kd.R_below RQ.out hb)
             clear hb
             refine hK.out _ _ ⟨(blk_cell XV7.out 0).trans rfl, (blk_cell XV7.out 1).trans rfl, (blk_cell XV8.out 0).trans rfl, (blk_cell XV8.out 1).trans rfl⟩ (fun hHeld => ?_)
             clear hK K
             refine zn 73 ?_
             refine zp 12 74 ?_; refine zp 13 75 ?_
             refine done_ (by kernel_rfl) ?_
             go_wp2_with fail
             go_ret
             exact ⟨rfl, HB.out⟩
            | true =>
             have h := H3.out
             rw [if_pos rfl] at h
             have H4 := Aside0.mk h
             clear H3 h
             refine start_ (n := 14) (S := fun W_ => W_.cell? ⟨b7, 0, none⟩ = some (.int .i64 Y.f1) ∧ W_.cell? ⟨b7, 1, none⟩ = some (.int .i64 Y.f0) ∧ W_.cell? ⟨b8, 0, none⟩ = some (.int .i64 Z.f1) ∧ W_.cell? ⟨b8, 1, none⟩ = some (.int .i64 Z.f0)) (ds := []) #[false, false, false, false, false, false, false, false, false, false, false, false, false, false] (by kernel_rfl) rfl rfl ⟨(blk_cell XV7.out 0).trans rfl, (blk_cell XV7.out 1).trans rfl, (blk_cell XV8.out 0).trans rfl, (blk_cell XV8.out 1).trans rfl⟩ (fun hHeld => ?_)
             replace HB := Aside0.mk (below_drew1 HB.out)
             replace XA := Aside0.mk (blk_drew XA.out)
             replace XB := Aside0.mk (blk_drew XB.out)
             replace RX := Aside0.mk (Kd.R_drew RX.out)
             replace XV7 := Aside0.mk (blk_drew XV7.out)
             replace XV8 := Aside0.mk (blk_drew XV8.out)
             generalize wc.drew = u6 at HB hHeld XA XB RX XV7 XV8 ⊢
             refine zt 0 62 ?_; refine zt 2 64 ?_
             refine z1 1 (some 63) (fun K hK => ?_)
             refine zg Try.func100 #[.pointer (some ⟨w.heap.size, 0, none⟩), .agg #[.int .i64 Y.f1, .int .i64 Y.f0], .int .i64 0, .int .i64 31] ?_
             with_reducible refine (spec_l6Scan.at (g := w.heap.size) k1 a0_0 a0_1 _ c2 l2 A3 c3 l3 Y.f1 Y.f0 0 31 sc _ (Kd.C_below HR2.out HB.out) HC2.out (Kd.C_below HR3.out HB.out) HC3.out HSC.out XA).mono ?_
             rintro e u7 ⟨v1, rfl, hr, hb⟩
             refine ⟨_, rfl, ?_⟩
             have hz_ := HB.out.size
             replace HB := Aside0.mk (show Below w.heap.size w _ from below_step HB.out hb)
             replace XA := Aside0.mk (keepB hb XA.out)
             replace XB := Aside0.mk (keepB hb XB.out)
             replace RX := Aside0.mk (Kd.R_below RX.out hb)
             replace XV7 := Aside0.mk (keepB hb XV7.out)
             replace XV8 := Aside0.mk (keepB hb XV8.out)
             clear hb
             obtain ⟨ARC, cRC, eRC⟩ := Kd.R_slice hr
             subst eRC
             have RC := Aside0.mk (show Kd.R k105 105 u7 w.heap.size (fun _ => True) (.slice ARC sc.length cRC) sc from Kd.R_lower hr hz_)
             clear hr
             clear hz_
             refine hK.out _ _ ⟨(blk_cell XV7.out 0).trans rfl, (blk_cell XV7.out 1).trans rfl, (blk_cell XV8.out 0).trans rfl, (blk_cell XV8.out 1).trans rfl⟩ (fun hHeld => ?_)
             clear hK K
             refine zn 63 ?_
             refine z1 3 (some 65) (fun K hK => ?_)
             refine zg Try.func100 #[.pointer (some ⟨w.heap.size + 1, 0, none⟩), .agg #[.int .i64 Z.f1, .int .i64 Z.f0], .int .i64 0, .int .i64 31] ?_
             with_reducible refine (spec_l6Scan.at (g := w.heap.size + 1) k1 b0_0 b0_1 _ d2 m2 B3 d3 m3 Z.f1 Z.f0 0 31 sd _ (Kd.C_below HS2.out HB.out) HD2.out (Kd.C_below HS3.out HB.out) HD3.out HSD.out XB).mono ?_
             rintro e u8 ⟨v1, rfl, hr, hb⟩
             refine ⟨_, rfl, ?_⟩
             have hz_ := HB.out.size
             replace HB := Aside0.mk (show Below w.heap.size w _ from below_step HB.out hb)
             replace XA := Aside0.mk (keepB hb XA.out)
             replace XB := Aside0.mk (keepB hb XB.out)
             replace RX := Aside0.mk (Kd.R_below RX.out hb)
             replace XV7 := Aside0.mk (keepB hb XV7.out)
             replace XV8 := Aside0.mk (keepB hb XV8.out)
             replace RC := Aside0.mk (Kd.R_below RC.out hb)
             clear hb
             obtain ⟨ARD, cRD, eRD⟩ := Kd.R_slice hr
             subst eRD
             have RD := Aside0.mk (show Kd.R k105 105 u8 w.heap.size (fun _ => True) (.slice ARD sd.length cRD) sd from Kd.R_lower hr hz_)
             clear hr
             clear hz_
             refine hK.out _ _ ⟨(blk_cell XV7.out 0).trans rfl, (blk_cell XV7.out 1).trans rfl, (blk_cell XV8.out 0).trans rfl, (blk_cell XV8.out 1).trans rfl⟩ (fun hHeld => ?_)
             clear hK K
             refine zn 65 ?_
             refine z1 4 (some 66) (fun K hK => ?_)
             refine zg Try.func99 #[.slice ARC sc.length cRC, .slice ARD sd.length cRD] ?_
             with_reducible refine (spec_l7Cells.calls k1 _ _ sc _ _ sd _ _ (Kd.R_reads' RC.out).2.2 (Kd.R_reads' RC.out).2.1 (Kd.R_reads' RD.out).2.2 (Kd.R_reads' RD.out).2.1 HQ2.out).mono ?_
             rintro e u9 ⟨rfl, hd⟩
             refine ⟨_, rfl, ?_⟩
             have hb : Below u8.heap.size u8 u9 := by obtain ⟨n_, rfl⟩ := hd.out; exact pw_below_drewN (Below.refl _ _) n_
             clear hd
             replace HB := Aside0.mk (show Below w.heap.size w _ from below_step HB.out hb)
             replace XA := Aside0.mk (keepB hb XA.out)
             replace XB := Aside0.mk (keepB hb XB.out)
             replace RX := Aside0.mk (Kd.R_below RX.out hb)
             replace XV7 := Aside0.mk (keepB hb XV7.out)
             replace XV8 := Aside0.mk (keepB hb XV8.out)
             replace RC := Aside0.mk (Kd.R_below RC.out hb)
             replace RD := Aside0.mk (Kd.R_below RD.out hb)
             clear hb
             refine hK.out _ _ ⟨(blk_cell XV7.out 0).trans rfl, (blk_cell XV7.out 1).trans rfl, (blk_cell XV8.out 0).trans rfl, (blk_cell XV8.out 1).trans rfl⟩ (fun hHeld => ?_)
             clear hK K
             refine zn 66 ?_
             refine zp 5 67 ?_; refine zp 6 68 ?_; refine zt 7 69 ?_; refine zt 9 71 ?_
             refine z1 8 (some 70) (fun K hK => ?_)
             refine zg Try.func101 #[.pointer (some ⟨w.heap.size, 0, none⟩), .agg #[.int .i64 Y.f1, .int .i64 Y.f0]] ?_
             with_reducible refine (spec_l7May.at (g := w.heap.size) k1 a0_0 a0_1 _ c2 l2 A3 c3 l3 Y.f1 Y.f0 pc _ (Kd.C_below HR2.out HB.out) HC2.out (Kd.C_below HR3.out HB.out) HC3.out HPC.out XA).mono ?_
             rintro e u10 ⟨v1, rfl, hr, hb⟩
             refine ⟨_, rfl, ?_⟩
             have hz_ := HB.out.size
             replace HB := Aside0.mk (show Below w.heap.size w _ from below_step HB.out hb)
             replace XA := Aside0.mk (keepB hb XA.out)
             replace XB := Aside0.mk (keepB hb XB.out)
             replace RX := Aside0.mk (Kd.R_below RX.out hb)
             replace XV7 := Aside0.mk (keepB hb XV7.out)
             replace XV8 := Aside0.mk (keepB hb XV8.out)
             replace RC := Aside0.mk (Kd.R_below RC.out hb)
             replace RD := Aside0.mk (Kd.R_below RD.out hb)
             clear hb
             obtain ⟨ARP, cRP, eRP⟩ := Kd.R_slice hr
             subst eRP
             have RP := Aside0.mk (show Kd.R (Kd.int .i64) 2 u10 w.heap.size (fun _ => True) (.slice ARP pc.length cRP) pc from Kd.R_lower hr hz_)
             clear hr
             clear hz_
             refine hK.out _ _ ⟨(blk_cell XV7.out 0).trans rfl, (blk_cell XV7.out 1).trans rfl, (blk_cell XV8.out 0).trans rfl, (blk_cell XV8.out 1).trans rfl⟩ (fun hHeld => ?_)
             clear hK K
             refine zn 70 ?_
             refine z1 10 (some 72) (fun K hK => ?_)
             refine zg Try.func101 #[.pointer (some ⟨w.heap.size + 1, 0, none⟩), .agg #[.int .i64 Z.f1, .int .i64 Z.f0]] ?_
             with_reducible refine (spec_l7May.at (g := w.heap.size + 1) k1 b0_0 b0_1 _ d2 m2 B3 d3 m3 Z.f1 Z.f0 pd _ (Kd.C_below HS2.out HB.out) HD2.out (Kd.C_below HS3.out HB.out) HD3.out HPD.out XB).mono ?_
             rintro e u11 ⟨v1, rfl, hr, hb⟩
             refine ⟨_, rfl, ?_⟩
             have hz_ := HB.out.size
             replace HB := Aside0.mk (show Below w.heap.size w _ from below_step HB.out hb)
             replace XA := Aside0.mk (keepB hb XA.out)
             replace XB := Aside0.mk (keepB hb XB.out)
             replace RX := Aside0.mk (Kd.R_below RX.out hb)
             replace XV7 := Aside0.mk (keepB hb XV7.out)
             replace XV8 := Aside0.mk (keepB hb XV8.out)
             replace RC := Aside0.mk (Kd.R_below RC.out hb)
             replace RD := Aside0.mk (Kd.R_below RD.out hb)
             replace RP := Aside0.mk (Kd.R_below RP.out hb)
             clear hb
             obtain ⟨ARQ, cRQ, eRQ⟩ := Kd.R_slice hr
             subst eRQ
             have RQ := Aside0.mk (show Kd.R (Kd.int .i64) 2 u11 w.heap.size (fun _ => True) (.slice ARQ pd.length cRQ) pd from Kd.R_lower hr hz_)
             clear hr
             clear hz_
             refine hK.out _ _ ⟨(blk_cell XV7.out 0).trans rfl, (blk_cell XV7.out 1).trans rfl, (blk_cell XV8.out 0).trans rfl, (blk_cell XV8.out 1).trans rfl⟩ (fun hHeld => ?_)
             clear hK K
             refine zn 72 ?_
             refine z1 11 (some 73) (fun K hK => ?_)
             refine zg Try.func97 #[.slice ARP pc.length cRP, .slice ARQ pd.length cRQ] ?_
             with_reducible refine (spec_l7Same.calls k1 _ _ pc _ _ pd _ _ (Kd.R_reads' RP.out).2.2 (Kd.R_reads' RP.out).2.1 (Kd.R_reads' RQ.out).2.2 (Kd.R_reads' RQ.out).2.1 HZ2.out).mono ?_
             rintro e u12 ⟨rfl, hd⟩
             refine ⟨_, rfl, ?_⟩
             have hb : Below u11.heap.size u11 u12 := by obtain ⟨n_, rfl⟩ := hd.out; exact pw_below_drewN (Below.refl _ _) n_
             clear hd
             replace HB := Aside0.mk (show Below w.heap.size w _ from below_step HB.out hb)
             replace XA := Aside0.mk (keepB hb XA.out)
             replace XB := Aside0.mk (keepB hb XB.out)
             replace RX := Aside0.mk (Kd.R_below RX.out hb)
             replace XV7 := Aside0.mk (keepB hb XV7.out)
             replace XV8 := Aside0.mk (keepB hb XV8.out)
             replace RC := Aside0.mk (Kd.R_below RC.out hb)
             replace RD := Aside0.mk (Kd.R_below RD.out hb)
             replace RP := Aside0.mk (Kd.R_below RP.out hb)
             replace RQ := Aside0.mk (Kd.R_below RQ.out hb)
             clear hb
             refine hK.out _ _ ⟨(blk_cell XV7.out 0).trans rfl, (blk_cell XV7.out 1).trans rfl, (blk_cell XV8.out 0).trans rfl, (blk_cell XV8.out 1).trans rfl⟩ (fun hHeld => ?_)
             clear hK K
             refine zn 73 ?_
             refine zp 12 74 ?_; refine zp 13 75 ?_
             refine done_ (by kernel_rfl) ?_
             go_wp2_with fail
             go_roundg k1
             case measure => have := HK1.out; omega
             case rel => exact ⟨wrap64 (i + 1), by first | rfl | rw [E9.out], H4, ⟨by have := HK1.out; omega⟩, ⟨by have h_ := C1.out; rw [E9.out]; omega⟩, XA, XB, RX, HB⟩
        rw [if_neg c1] at H
        obtain rfl := Option.some.inj H
        have d1 : decide (i < (x.length : Int)) = false := decide_eq_false c1
        go_wp2_with fail
        go_ret
        exact ⟨rfl, HB.out⟩
    have n01 : (a0_0 == b0_0) = false := beq_eq_false_iff_ne.2 n0
    have n02 : (a0_0 != b0_0) = true := bne_iff_ne.2 n0
    rw [if_neg n0] at h
    obtain rfl := Option.some.inj h
    go_enter Try.func41, Try.ntmps41
    go_wp2_with fail
    have b1_ := blk_new w (Obj.cells #[.int .i64 a0_0, .int .i64 a0_1, .slice A2 l2.length c2, .slice A3 l3.length c3] 31)
    have b2_ := blk_new (w.alloc (Obj.cells #[.int .i64 a0_0, .int .i64 a0_1, .slice A2 l2.length c2, .slice A3 l3.length c3] 31)) (Obj.cells #[.int .i64 b0_0, .int .i64 b0_1, .slice B2 m2.length d2, .slice B3 m3.length d3] 31)
    have XA := Aside0.mk (blk_alloc b1_ (Obj.cells #[.int .i64 b0_0, .int .i64 b0_1, .slice B2 m2.length d2, .slice B3 m3.length d3] 31))
    have e1_ : (w.alloc (Obj.cells #[.int .i64 a0_0, .int .i64 a0_1, .slice A2 l2.length c2, .slice A3 l3.length c3] 31)).heap.size = w.heap.size + 1 := by simp
    rw [e1_] at b2_
    have XB := Aside0.mk b2_
    have HB := Aside0.mk (below_alloc (below_alloc (Below.refl w.heap.size w) (Obj.cells #[.int .i64 a0_0, .int .i64 a0_1, .slice A2 l2.length c2, .slice A3 l3.length c3] 31)) (Obj.cells #[.int .i64 b0_0, .int .i64 b0_1, .slice B2 m2.length d2, .slice B3 m3.length d3] 31))
    clear b1_ b2_
    try rw [e1_]
    generalize (w.alloc (Obj.cells #[.int .i64 a0_0, .int .i64 a0_1, .slice A2 l2.length c2, .slice A3 l3.length c3] 31)).alloc (Obj.cells #[.int .i64 b0_0, .int .i64 b0_1, .slice B2 m2.length d2, .slice B3 m3.length d3] 31) = u0 at XA XB HB ⊢
    clear e1_
    refine (spec_l6Fault.calls (g := w.heap.size) k a0_0 a0_1 _ c2 l2 A3 c3 l3 fa _ (Kd.C_below HR2.out HB.out) HC2.out (Kd.C_below HR3.out HB.out) HC3.out HF.out XA).mono ?_
    rintro e u1 ⟨rfl, hb⟩
    replace HB := Aside0.mk (show Below w.heap.size w _ from below_step HB.out hb)
    replace XA := Aside0.mk (keepB hb XA.out)
    replace XB := Aside0.mk (keepB hb XB.out)
    clear hb
    obtain ⟨cXA_0, cXA_1, cXA_2, cXA_3, -, -, -, -⟩ := Lv.blks4 XA.out
    have lXA := blk_lt XA.out
    have nXA := Nat.ne_of_lt (blk_lt XA.out)
    obtain ⟨cXB_0, cXB_1, cXB_2, cXB_3, -, -, -, -⟩ := Lv.blks4 XB.out
    have lXB := blk_lt XB.out
    have nXB := Nat.ne_of_lt (blk_lt XB.out)
    go_wp2_with fail
    refine (spec_l6Fault.calls (g := w.heap.size + 1) k b0_0 b0_1 _ d2 m2 B3 d3 m3 fb _ (Kd.C_below HS2.out HB.out) HD2.out (Kd.C_below HS3.out HB.out) HD3.out HG.out XB).mono ?_
    clear cXA_0 cXA_1 cXA_2 cXA_3 lXA nXA cXB_0 cXB_1 cXB_2 cXB_3 lXB nXB
    rintro e u2 ⟨rfl, hb⟩
    replace HB := Aside0.mk (show Below w.heap.size w _ from below_step HB.out hb)
    replace XA := Aside0.mk (keepB hb XA.out)
    replace XB := Aside0.mk (keepB hb XB.out)
    clear hb
    obtain ⟨cXA_0, cXA_1, cXA_2, cXA_3, -, -, -, -⟩ := Lv.blks4 XA.out
    have lXA := blk_lt XA.out
    have nXA := Nat.ne_of_lt (blk_lt XA.out)
    obtain ⟨cXB_0, cXB_1, cXB_2, cXB_3, -, -, -, -⟩ := Lv.blks4 XB.out
    have lXB := blk_lt XB.out
    have nXB := Nat.ne_of_lt (blk_lt XB.out)
    go_wp2_with fail
    go_ret
    exact ⟨rfl, HB.out⟩
   have k01 : (a0_1 == b0_1) = false := beq_eq_false_iff_ne.2 k0
   have k02 : (a0_1 != b0_1) = true := bne_iff_ne.2 k0
   rw [if_neg k0] at h
   obtain rfl := Option.some.inj h
   go_enter Try.func41, Try.ntmps41
   go_wp2_with fail
   have b1_ := blk_new w (Obj.cells #[.int .i64 a0_0, .int .i64 a0_1, .slice A2 l2.length c2, .slice A3 l3.length c3] 31)
   have b2_ := blk_new (w.alloc (Obj.cells #[.int .i64 a0_0, .int .i64 a0_1, .slice A2 l2.length c2, .slice A3 l3.length c3] 31)) (Obj.cells #[.int .i64 b0_0, .int .i64 b0_1, .slice B2 m2.length d2, .slice B3 m3.length d3] 31)
   have XA := Aside0.mk (blk_alloc b1_ (Obj.cells #[.int .i64 b0_0, .int .i64 b0_1, .slice B2 m2.length d2, .slice B3 m3.length d3] 31))
   have e1_ : (w.alloc (Obj.cells #[.int .i64 a0_0, .int .i64 a0_1, .slice A2 l2.length c2, .slice A3 l3.length c3] 31)).heap.size = w.heap.size + 1 := by simp
   rw [e1_] at b2_
   have XB := Aside0.mk b2_
   have HB := Aside0.mk (below_alloc (below_alloc (Below.refl w.heap.size w) (Obj.cells #[.int .i64 a0_0, .int .i64 a0_1, .slice A2 l2.length c2, .slice A3 l3.length c3] 31)) (Obj.cells #[.int .i64 b0_0, .int .i64 b0_1, .slice B2 m2.length d2, .slice B3 m3.length d3] 31))
   clear b1_ b2_
   try rw [e1_]
   generalize (w.alloc (Obj.cells #[.int .i64 a0_0, .int .i64 a0_1, .slice A2 l2.length c2, .slice A3 l3.length c3] 31)).alloc (Obj.cells #[.int .i64 b0_0, .int .i64 b0_1, .slice B2 m2.length d2, .slice B3 m3.length d3] 31) = u0 at XA XB HB ⊢
   clear e1_
   refine (spec_l6Fault.calls (g := w.heap.size) k a0_0 a0_1 _ c2 l2 A3 c3 l3 fa _ (Kd.C_below HR2.out HB.out) HC2.out (Kd.C_below HR3.out HB.out) HC3.out HF.out XA).mono ?_
   rintro e u1 ⟨rfl, hb⟩
   replace HB := Aside0.mk (show Below w.heap.size w _ from below_step HB.out hb)
   replace XA := Aside0.mk (keepB hb XA.out)
   replace XB := Aside0.mk (keepB hb XB.out)
   clear hb
   obtain ⟨cXA_0, cXA_1, cXA_2, cXA_3, -, -, -, -⟩ := Lv.blks4 XA.out
   have lXA := blk_lt XA.out
   have nXA := Nat.ne_of_lt (blk_lt XA.out)
   obtain ⟨cXB_0, cXB_1, cXB_2, cXB_3, -, -, -, -⟩ := Lv.blks4 XB.out
   have lXB := blk_lt XB.out
   have nXB := Nat.ne_of_lt (blk_lt XB.out)
   go_wp2_with fail
   refine (spec_l6Fault.calls (g := w.heap.size + 1) k b0_0 b0_1 _ d2 m2 B3 d3 m3 fb _ (Kd.C_below HS2.out HB.out) HD2.out (Kd.C_below HS3.out HB.out) HD3.out HG.out XB).mono ?_
   clear cXA_0 cXA_1 cXA_2 cXA_3 lXA nXA cXB_0 cXB_1 cXB_2 cXB_3 lXB nXB
   rintro e u2 ⟨rfl, hb⟩
   replace HB := Aside0.mk (show Below w.heap.size w _ from below_step HB.out hb)
   replace XA := Aside0.mk (keepB hb XA.out)
   replace XB := Aside0.mk (keepB hb XB.out)
   clear hb
   obtain ⟨cXA_0, cXA_1, cXA_2, cXA_3, -, -, -, -⟩ := Lv.blks4 XA.out
   have lXA := blk_lt XA.out
   have nXA := Nat.ne_of_lt (blk_lt XA.out)
   obtain ⟨cXB_0, cXB_1, cXB_2, cXB_3, -, -, -, -⟩ := Lv.blks4 XB.out
   have lXB := blk_lt XB.out
   have nXB := Nat.ne_of_lt (blk_lt XB.out)
   go_wp2_with fail
   go_ret
   exact ⟨rfl, HB.out⟩
  have g01 : (fb == 0) = false := beq_eq_false_iff_ne.2 g0
  have g02 : (fb != 0) = true := bne_iff_ne.2 g0
  rw [if_neg g0] at h
  obtain rfl := Option.some.inj h
  go_enter Try.func41, Try.ntmps41
  go_wp2_with fail
  have b1_ := blk_new w (Obj.cells #[.int .i64 a0_0, .int .i64 a0_1, .slice A2 l2.length c2, .slice A3 l3.length c3] 31)
  have b2_ := blk_new (w.alloc (Obj.cells #[.int .i64 a0_0, .int .i64 a0_1, .slice A2 l2.length c2, .slice A3 l3.length c3] 31)) (Obj.cells #[.int .i64 b0_0, .int .i64 b0_1, .slice B2 m2.length d2, .slice B3 m3.length d3] 31)
  have XA := Aside0.mk (blk_alloc b1_ (Obj.cells #[.int .i64 b0_0, .int .i64 b0_1, .slice B2 m2.length d2, .slice B3 m3.length d3] 31))
  have e1_ : (w.alloc (Obj.cells #[.int .i64 a0_0, .int .i64 a0_1, .slice A2 l2.length c2, .slice A3 l3.length c3] 31)).heap.size = w.heap.size + 1 := by simp
  rw [e1_] at b2_
  have XB := Aside0.mk b2_
  have HB := Aside0.mk (below_alloc (below_alloc (Below.refl w.heap.size w) (Obj.cells #[.int .i64 a0_0, .int .i64 a0_1, .slice A2 l2.length c2, .slice A3 l3.length c3] 31)) (Obj.cells #[.int .i64 b0_0, .int .i64 b0_1, .slice B2 m2.length d2, .slice B3 m3.length d3] 31))
  clear b1_ b2_
  try rw [e1_]
  generalize (w.alloc (Obj.cells #[.int .i64 a0_0, .int .i64 a0_1, .slice A2 l2.length c2, .slice A3 l3.length c3] 31)).alloc (Obj.cells #[.int .i64 b0_0, .int .i64 b0_1, .slice B2 m2.length d2, .slice B3 m3.length d3] 31) = u0 at XA XB HB ⊢
  clear e1_
  refine (spec_l6Fault.calls (g := w.heap.size) k a0_0 a0_1 _ c2 l2 A3 c3 l3 fa _ (Kd.C_below HR2.out HB.out) HC2.out (Kd.C_below HR3.out HB.out) HC3.out HF.out XA).mono ?_
  rintro e u1 ⟨rfl, hb⟩
  replace HB := Aside0.mk (show Below w.heap.size w _ from below_step HB.out hb)
  replace XA := Aside0.mk (keepB hb XA.out)
  replace XB := Aside0.mk (keepB hb XB.out)
  clear hb
  obtain ⟨cXA_0, cXA_1, cXA_2, cXA_3, -, -, -, -⟩ := Lv.blks4 XA.out
  have lXA := blk_lt XA.out
  have nXA := Nat.ne_of_lt (blk_lt XA.out)
  obtain ⟨cXB_0, cXB_1, cXB_2, cXB_3, -, -, -, -⟩ := Lv.blks4 XB.out
  have lXB := blk_lt XB.out
  have nXB := Nat.ne_of_lt (blk_lt XB.out)
  go_wp2_with fail
  refine (spec_l6Fault.calls (g := w.heap.size + 1) k b0_0 b0_1 _ d2 m2 B3 d3 m3 fb _ (Kd.C_below HS2.out HB.out) HD2.out (Kd.C_below HS3.out HB.out) HD3.out HG.out XB).mono ?_
  clear cXA_0 cXA_1 cXA_2 cXA_3 lXA nXA cXB_0 cXB_1 cXB_2 cXB_3 lXB nXB
  rintro e u2 ⟨rfl, hb⟩
  replace HB := Aside0.mk (show Below w.heap.size w _ from below_step HB.out hb)
  replace XA := Aside0.mk (keepB hb XA.out)
  replace XB := Aside0.mk (keepB hb XB.out)
  clear hb
  obtain ⟨cXA_0, cXA_1, cXA_2, cXA_3, -, -, -, -⟩ := Lv.blks4 XA.out
  have lXA := blk_lt XA.out
  have nXA := Nat.ne_of_lt (blk_lt XA.out)
  obtain ⟨cXB_0, cXB_1, cXB_2, cXB_3, -, -, -, -⟩ := Lv.blks4 XB.out
  have lXB := blk_lt XB.out
  have nXB := Nat.ne_of_lt (blk_lt XB.out)
  go_wp2_with fail
  go_ret
  exact ⟨rfl, HB.out⟩
 have f01 : (fa == 0) = false := beq_eq_false_iff_ne.2 f0
 have f02 : (fa != 0) = true := bne_iff_ne.2 f0
 rw [if_neg f0] at h
 obtain rfl := Option.some.inj h
 go_enter Try.func41, Try.ntmps41
 go_wp2_with fail
 have b1_ := blk_new w (Obj.cells #[.int .i64 a0_0, .int .i64 a0_1, .slice A2 l2.length c2, .slice A3 l3.length c3] 31)
 have b2_ := blk_new (w.alloc (Obj.cells #[.int .i64 a0_0, .int .i64 a0_1, .slice A2 l2.length c2, .slice A3 l3.length c3] 31)) (Obj.cells #[.int .i64 b0_0, .int .i64 b0_1, .slice B2 m2.length d2, .slice B3 m3.length d3] 31)
 have XA := Aside0.mk (blk_alloc b1_ (Obj.cells #[.int .i64 b0_0, .int .i64 b0_1, .slice B2 m2.length d2, .slice B3 m3.length d3] 31))
 have e1_ : (w.alloc (Obj.cells #[.int .i64 a0_0, .int .i64 a0_1, .slice A2 l2.length c2, .slice A3 l3.length c3] 31)).heap.size = w.heap.size + 1 := by simp
 rw [e1_] at b2_
 have XB := Aside0.mk b2_
 have HB := Aside0.mk (below_alloc (below_alloc (Below.refl w.heap.size w) (Obj.cells #[.int .i64 a0_0, .int .i64 a0_1, .slice A2 l2.length c2, .slice A3 l3.length c3] 31)) (Obj.cells #[.int .i64 b0_0, .int .i64 b0_1, .slice B2 m2.length d2, .slice B3 m3.length d3] 31))
 clear b1_ b2_
 try rw [e1_]
 generalize (w.alloc (Obj.cells #[.int .i64 a0_0, .int .i64 a0_1, .slice A2 l2.length c2, .slice A3 l3.length c3] 31)).alloc (Obj.cells #[.int .i64 b0_0, .int .i64 b0_1, .slice B2 m2.length d2, .slice B3 m3.length d3] 31) = u0 at XA XB HB ⊢
 clear e1_
 refine (spec_l6Fault.calls (g := w.heap.size) k a0_0 a0_1 _ c2 l2 A3 c3 l3 fa _ (Kd.C_below HR2.out HB.out) HC2.out (Kd.C_below HR3.out HB.out) HC3.out HF.out XA).mono ?_
 rintro e u1 ⟨rfl, hb⟩
 replace HB := Aside0.mk (show Below w.heap.size w _ from below_step HB.out hb)
 replace XA := Aside0.mk (keepB hb XA.out)
 replace XB := Aside0.mk (keepB hb XB.out)
 clear hb
 obtain ⟨cXA_0, cXA_1, cXA_2, cXA_3, -, -, -, -⟩ := Lv.blks4 XA.out
 have lXA := blk_lt XA.out
 have nXA := Nat.ne_of_lt (blk_lt XA.out)
 obtain ⟨cXB_0, cXB_1, cXB_2, cXB_3, -, -, -, -⟩ := Lv.blks4 XB.out
 have lXB := blk_lt XB.out
 have nXB := Nat.ne_of_lt (blk_lt XB.out)
 go_wp2_with fail
 go_ret
 exact ⟨rfl, HB.out⟩
end Go.Proofs.Ytonbnmaelepcbaa.P
