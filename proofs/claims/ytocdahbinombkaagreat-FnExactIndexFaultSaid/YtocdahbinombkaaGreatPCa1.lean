import Derived.Test.YtocdahbinombkaaGreatZz
import Derived.Test.YtocdahbinombkaaGreatP0
import Derived.Test.YtocdahbinombkaaGreatPCall5
import Derived.Test.YtocdahbinombkaaGreatPCall9
import Derived.Test.YtocdahbinombkaaGreatPDall0
import Derived.Test.YtocdahbinombkaaGreatPDm0
import Derived.Test.YtocdahbinombkaaGreatWRepsOne
import Derived.Test.YtocdahbinombkaaGreatWTab
import Derived.Test.YtocdahbinombkaaGreatLv
import Derived.Test.YtocdahbinombkaaGreatLv
import Derived.Test.YtocdahbinombkaaGreatLb
import Derived.Shelf.Abstract
import Derived.Test.YtocdahbinombkaaGreatLb
namespace Go.Proofs.YtocdahbinombkaaGreat.P
open Go.RowKit Go.Proofs.YtocdahbinombkaaGreatW.PrintWords Go.Proofs.YtocdahbinombkaaGreatW.PrintLast Go.Proofs.YtocdahbinombkaaGreatW.PrintMore
attribute [local go_sem] max2_int min2_int max_two min_two max_three min_three max_four min_four   -- for this text's walks alone
set_option linter.unusedVariables false
set_option linter.unusedSimpArgs false
set_option maxHeartbeats 8000000 in
set_option maxRecDepth 100000 in
theorem laws_toPair.calls (a0_0 : Int) (a0_1 : Int) (r1 : Int) (r2 : Int) (w : World) (h : laws_toPair.f a0_0 a0_1 = some (r1, r2)) :
 Calls Tryz.prog 27 #[.agg #[.int .i64 a0_0, .int .i64 a0_1]] w fun e w' => e = .returned (.agg #[.int .i64 r1, .int .i64 r2]) ∧ Below w.heap.size w w' := by
 have hu59 := Tryz.underlying59
 have hu55 := Tryz.underlying55
 have HB := Aside0.mk (Below.refl w.heap.size w)
 have H : (some (a0_0, a0_1)) = some (r1, r2) := h
 clear h
 simp only [Option.some.injEq, Prod.mk.injEq] at H
 obtain ⟨rfl, rfl⟩ := H
 go_enter Tryz.func27, Tryz.ntmps27
 go_wp2_with (first | ((with_reducible refine gate_dst (N := 1) rfl ?_); refine box_event ?hg (N := 1) ?hd (cs := #[.int .i64 a0_0, .int .i64 a0_1]) (t := 59) ?hr ?_; (case hd => rfl); (case hg => rfl); (case hr => first | (go_simp; done) | (go_simp; rfl)); intro gb11 hg w2 hbox hb; have n0_ := Aside0.mk (below_step zb hb); have n1_ := Aside0.mk (hbox); have n2_ := Aside0.mk ((by rw [hg]; exact (below_size zb) : w.heap.size ≤ gb11)); have n3_ := n2_; clear HB; have HB := n0_; have BK11 := n1_; have GW11 := n2_; have GE11 := n3_; clear n0_ n1_ n2_ n3_; clear hb hbox hg) | ((with_reducible refine gate_dst (N := 2) rfl ?_); refine box_event ?hg (N := 2) ?hd (cs := #[.int .i64 0, .int .i64 0]) (t := 55) ?hr ?_; (case hd => rfl); (case hg => rfl); (case hr => first | (go_simp; done) | (go_simp; rfl)); intro gb12 hg w3 hbox hb; have n0_ := Aside0.mk (blk_below (g := gb11) (o := .cells #[.int .i64 a0_0, .int .i64 a0_1] 59 (0, 0)) zk hb); have n1_ := Aside0.mk (below_step zb hb); have n2_ := Aside0.mk (hbox); have n3_ := Aside0.mk ((by rw [hg]; exact (below_size zb) : w.heap.size ≤ gb12)); have n4_ := n3_; have n5_ := Aside0.mk ((by rw [hg]; exact Nat.ne_of_lt (blk_lt (g := gb11) (o := .cells #[.int .i64 a0_0, .int .i64 a0_1] 59 (0, 0)) zk) : gb11 ≠ gb12)); have n6_ := Aside0.mk ((by rw [hg]; exact Nat.ne_of_gt (blk_lt (g := gb11) (o := .cells #[.int .i64 a0_0, .int .i64 a0_1] 59 (0, 0)) zk) : gb12 ≠ gb11)); clear BK11; clear HB; have BK11 := n0_; have HB := n1_; have BK12 := n2_; have GW12 := n3_; have GE12 := n4_; have NB269_270 := n5_; have NB270_269 := n6_; clear n0_ n1_ n2_ n3_ n4_ n5_ n6_; clear hb hbox hg) | ((with_reducible refine gate_dst (N := 3) rfl ?_); refine box_event ?hg (N := 3) ?hd (cs := #[.int .i64 0, .int .i64 0]) (t := 55) ?hr ?_; (case hd => rfl); (case hg => rfl); (case hr => first | (go_simp; done) | (go_simp; rfl)); intro gb13 hg w4 hbox hb; have n0_ := Aside0.mk (blk_below (g := gb11) (o := .cells #[.int .i64 a0_0, .int .i64 a0_1] 59 (0, 0)) zk hb); have n1_ := Aside0.mk (blk_below (g := gb12) (o := .cells #[.int .i64 0, .int .i64 0] 55 (0, 0)) zk hb); have n2_ := Aside0.mk (below_step zb hb); have n3_ := Aside0.mk (hbox); have n4_ := Aside0.mk ((by rw [hg]; exact (below_size zb) : w.heap.size ≤ gb13)); have n5_ := n4_; have n6_ := Aside0.mk ((by rw [hg]; exact Nat.ne_of_lt (blk_lt (g := gb11) (o := .cells #[.int .i64 a0_0, .int .i64 a0_1] 59 (0, 0)) zk) : gb11 ≠ gb13)); have n7_ := Aside0.mk ((by rw [hg]; exact Nat.ne_of_gt (blk_lt (g := gb11) (o := .cells #[.int .i64 a0_0, .int .i64 a0_1] 59 (0, 0)) zk) : gb13 ≠ gb11)); have n8_ := Aside0.mk ((by rw [hg]; exact Nat.ne_of_lt (blk_lt (g := gb12) (o := .cells #[.int .i64 0, .int .i64 0] 55 (0, 0)) zk) : gb12 ≠ gb13)); have n9_ := Aside0.mk ((by rw [hg]; exact Nat.ne_of_gt (blk_lt (g := gb12) (o := .cells #[.int .i64 0, .int .i64 0] 55 (0, 0)) zk) : gb13 ≠ gb12)); clear BK11; clear BK12; clear HB; have BK11 := n0_; have BK12 := n1_; have HB := n2_; have BK13 := n3_; have GW13 := n4_; have GE13 := n5_; have NB269_271 := n6_; have NB271_269 := n7_; have NB270_271 := n8_; have NB271_270 := n9_; clear n0_ n1_ n2_ n3_ n4_ n5_ n6_ n7_ n8_ n9_; clear hb hbox hg; have hnb5 := NB269_270.out; have hnc5 := NB270_269.out; have hnb6 := NB269_271.out; have hnc6 := NB271_269.out; obtain ⟨hcz7_0, hcz7_1, hfz7_0, hfz7_1⟩ := Go.Proofs.YtocdahbinombkaaGreat.Lv.blks2 BK11.out; have hnb8 := NB271_270.out; have hnc8 := NB270_271.out; obtain ⟨hcz9_0, hcz9_1, hfz9_0, hfz9_1⟩ := Go.Proofs.YtocdahbinombkaaGreat.Lv.blks2 BK13.out; obtain ⟨hcz10_0, hcz10_1, hfz10_0, hfz10_1⟩ := Go.Proofs.YtocdahbinombkaaGreat.Lv.blks2 BK12.out))
 refine bodyPost_ret (results_cell_row rfl _ _ gb12 55 #[.int .i64 a0_0, .int .i64 a0_1] (0, 0) _ rfl (by (with_reducible repeat (first | refine blk_drewN ?_ _ | refine blk_drew ?_ | refine blk_alloc ?_ _)); refine blk_put (cs := #[.int .i64 a0_0, .int .i64 0]) ?_ 1 _ rfl; (with_reducible repeat (first | refine blk_drewN ?_ _ | refine blk_drew ?_ | refine blk_alloc ?_ _)); refine blk_put (cs := #[.int .i64 0, .int .i64 0]) ?_ 0 _ rfl; (with_reducible repeat (first | refine blk_drewN ?_ _ | refine blk_drew ?_ | refine blk_alloc ?_ _)); refine blk_far ?_ NB270_271.out _; (with_reducible repeat (first | refine blk_drewN ?_ _ | refine blk_drew ?_ | refine blk_alloc ?_ _)); refine blk_far ?_ NB270_271.out _; (with_reducible repeat (first | refine blk_drewN ?_ _ | refine blk_drew ?_ | refine blk_alloc ?_ _)); exact BK12.out) Tryz.underlying55 rfl (by kernel_rfl)) rfl ?_
 exact ⟨ze, zb⟩
set_option maxHeartbeats 8000000 in
set_option maxRecDepth 100000 in
theorem laws_toPairS.calls (k : Nat) (A0 : Option Addr) (c0 : Nat) (l0 : List (S59)) (r : List (S55)) (w : World) (hr0 : Kd.C k59 w A0 l0.length l0) (hc0 : l0.length ≤ c0) (h : laws_toPairS.f k l0 = some r) :
 Calls Tryz.prog 9 #[.slice A0 l0.length c0] w fun e w' => ∃ v0_ : Value, e = .returned (v0_) ∧ Kd.R k55 55 w' w.heap.size (fun _ => True) v0_ r ∧ Below w.heap.size w w' := by
 have hu59 := Tryz.underlying59
 have hu55 := Tryz.underlying55
 have HR0 := Aside0.mk hr0
 have HC0 := Aside0.mk hc0
 clear hr0 hc0
 have HB := Aside0.mk (Below.refl w.heap.size w)
 have H : (if 0 ≤ (l0.length : Int) then (if ((l0.length : Int) : Int).toNat ≤ 17592186044416 then (laws_toPairS.l0 k l0 (List.replicate ((l0.length : Int) : Int).toNat z55) 0) else (none)) else (none)) = some r := h
 clear h
 by_cases c2 : 0 ≤ (l0.length : Int)
 ·rw [if_pos c2] at H
  have c2b0 := eq_true c2
  have c2b1 : decide (0 ≤ (l0.length : Int)) = true := decide_eq_true c2
  clear c2
  by_cases c3 : ((l0.length : Int) : Int).toNat ≤ 17592186044416
  ·rw [if_pos c3] at H
   have c3b0 := eq_true c3
   have c3b1 : decide (((l0.length : Int) : Int).toNat ≤ 17592186044416) = true := decide_eq_true c3
   clear c3
   obtain ⟨y14, hy14⟩ : ∃ y_ : List (S55), y_ = (List.replicate ((l0.length : Int) : Int).toNat z55) := ⟨_, rfl⟩
   replace H : (laws_toPairS.l0 k l0 y14 0) = some r := by first | (rw [hy14]; with_reducible exact H) | (have H2_ := (Option.bind_some _ _).symm.trans H; rw [hy14]; with_reducible exact H2_) | (have H2_ := (Option.bind_some _ _).symm.trans H; with_reducible exact H2_) | with_reducible exact H | (rw [hy14]; exact H) | exact H
   have Ny14 := Aside0.mk hy14
   clear hy14
   have H' := Aside0.mk H
   clear H
   go_enter Tryz.func9, Tryz.ntmps9
   go_wp2_with (first | ((with_reducible refine gate_dst (N := 7) rfl ?_); refine Kd.R_make k55 _ 55 rfl (N := 7) rfl 35 _ _ rfl (l0.length : Int) rfl rfl Tryz.underlying35 (.agg #[(.int .i64 0), (.int .i64 0)]) 16 info55 rfl (by decide) (by omega) z55 (ok := fun _ => True) (okp := fun _ => True) (k55_mkM _ _ _ z55 ) (fun _ hk => hk) trivial (of_decide_eq_true za) (Nat.le_trans (Nat.mul_le_mul_right _ (of_decide_eq_true za : (l0.length : Int).toNat ≤ 17592186044416)) (by omega)) (Below.refl _ _) (Nat.le_refl _) ?_; intro v22 w4 ho5 hb hg_ hnew_; clear hg_ hnew_; (first | rw [← Ny14.out] at ho5 | (simp only [Int.reduceToNat] at ho5; rw [← Ny14.out] at ho5)); have n0_ := Aside0.mk (Kd.R_lower ho5 (below_size zb)); have n1_ := Aside0.mk (below_step zb hb); clear HB; have HO23 := n0_; have HB := n1_; clear n0_ n1_; clear hb ho5))
   go_loopg [4] k (fun kq v4 w' => ∃ (x3_1 : List (S55)) (x4_1 : Int), v4 = .int .i64 x4_1 ∧ Aside0 (laws_toPairS.l0 kq l0 x3_1 x4_1 = some r) ∧ Aside0 (kq ≤ k) ∧ Aside0 (Kd.R k55 55 w' w.heap.size (fun _ => True) v22 x3_1) ∧ Aside0 (Below w.heap.size w w'))
   case atStart => exact ⟨(y14), (0), zs, H', ⟨Nat.le_refl _⟩, ⟨by (with_reducible repeat (first | apply Kd.R_alloc | apply Kd.R_drewN | apply Kd.R_drew)); exact HO23.out⟩, ⟨zb⟩⟩
   case round =>
    clear H'
    try clear c2
    try clear c2b0
    try clear c2b1
    try clear p2
    try clear c3
    try clear c3b0
    try clear c3b1
    obtain ⟨x3_1, x4_1, rfl, HA, HK1, HO_3, HB⟩ := hrel
    cases gk with
    | zero => exact absurd HA.out (by simp [laws_toPairS.l0])
    | succ k1 =>
     have H := HA.out
     clear HA
     simp only [laws_toPairS.l0] at H
     by_cases c6 : x4_1 < (l0.length : Int)
     ·rw [if_pos c6] at H
      have c6b0 : decide (x4_1 < (l0.length : Int)) = true := decide_eq_true c6
      clear c6
      by_cases c7 : 0 ≤ x4_1
      ·rw [if_pos c7] at H
       have c7b0 : decide (0 ≤ x4_1) = true := decide_eq_true c7
       clear c7
       replace H := Option.bind_eq_some_iff.mp H
       obtain ⟨⟨t17, t18⟩, A80, H⟩ := H
       replace H : (if x4_1 < (x3_1.length : Int) then (laws_toPairS.l0 k1 l0 (x3_1.set (x4_1 : Int).toNat (⟨t17, t18⟩ : S55)) (wrap64 (x4_1 + 1))) else (none)) = some r := H
       have A8 := Aside0.mk A80
       clear A80
       by_cases c9 : x4_1 < (x3_1.length : Int)
       ·rw [if_pos c9] at H
        have c9b0 : decide (x4_1 < (x3_1.length : Int)) = true := decide_eq_true c9
        clear c9
        obtain ⟨y15, hy15⟩ : ∃ y_ : List (S55), y_ = (x3_1.set (x4_1 : Int).toNat (⟨t17, t18⟩ : S55)) := ⟨_, rfl⟩
        replace H : (laws_toPairS.l0 k1 l0 y15 (wrap64 (x4_1 + 1))) = some r := by first | (rw [hy15]; with_reducible exact H) | (have H2_ := (Option.bind_some _ _).symm.trans H; rw [hy15]; with_reducible exact H2_) | (have H2_ := (Option.bind_some _ _).symm.trans H; with_reducible exact H2_) | with_reducible exact H | (rw [hy15]; exact H) | exact H
        have Ny15 := Aside0.mk hy15
        clear hy15
        have H' := Aside0.mk H
        clear H
        have p275 : 0 ≤ (x4_1 : Int) := of_decide_eq_true za
        have q19 : x4_1 < (l0.length : Int) := of_decide_eq_true za
        obtain ⟨ad19, e275, hx19_0, hx19_1⟩ := at_T59 (Kd.C_below HR0.out HB.out) x4_1 p275 q19
        cases e275
        replace p275 := eq_true p275
        replace q19 := eq_true q19
        go_wp2_with (first | ((with_reducible refine gate_callee (f := 27) rfl ?_); refine goesL_ (some 20) rfl rfl Tryz.func27 (by kernel_rfl) rfl #[.agg #[.int .i64 ((rd_T59 l0 x4_1).f0), .int .i64 ((rd_T59 l0 x4_1).f1)]] rfl zm ?_; (with_reducible refine (laws_toPair.calls ((rd_T59 l0 x4_1).f0) ((rd_T59 l0 x4_1).f1) t17 t18 _ A8.out).mono ?_); rintro e w11 ⟨rfl, hb⟩; refine ⟨_, rfl, ?_⟩; have n0_ := Aside0.mk (Kd.R_below (by (with_reducible repeat (first | apply Kd.R_alloc | apply Kd.R_drewN | apply Kd.R_drew)); exact HO_3.out) hb); have n1_ := Aside0.mk (below_step zb hb); clear HO_3; clear HB; have HO_3 := n0_; have HB := n1_; clear n0_ n1_; (try clear hb); (try clear hb2); (try clear hk); (try clear hi); have p10 : 0 ≤ (x4_1 : Int) := of_decide_eq_true za; have q10 : (x4_1 : Int) < ((x3_1.length : Int) : Int) := of_decide_eq_true za; obtain ⟨go10, co10, eo10, gb10, gl10, cl10, HG10⟩ := Kd.R_form HO_3.out (by omega); (first | cases eo10 | (injection eo10 with ea_ en_ ec_; (first | subst ea_ | (injection ea_ with ea_; subst ea_)); subst ec_; clear en_)); have GB10 := Aside0.mk gb10; have GG10 := Aside0.mk HG10; clear gb10 gl10 HG10; obtain ⟨ce10, hcl10, hM10, hcc10, hfr10⟩ := Kd.R_elem HO_3.out z55 (x4_1 : Int) p10 q10; obtain rfl := k55_openM hM10; have hx10_0 : w11.cell? ⟨go10, (x4_1 : Int).toNat * 2, none⟩ = some (.int .i64 ((rd_T55 x3_1 x4_1).f0)) := hcc10 0 _ rfl; have hx10_1 : w11.cell? ⟨go10, (x4_1 : Int).toNat * 2 + 1, none⟩ = some (.int .i64 ((rd_T55 x3_1 x4_1).f1)) := hcc10 1 _ rfl; have hf10_0 : w11.frozen? ⟨go10, (x4_1 : Int).toNat * 2, none⟩ = false := hfr10 0; have hf10_1 : w11.frozen? ⟨go10, (x4_1 : Int).toNat * 2 + 1, none⟩ = false := hfr10 1; clear hcl10 hcc10 hfr10; (try clear hM10); replace p10 := eq_true p10; replace q10 := eq_true q10; have HX12 := Aside0.mk (show Kd.R k55 55 w11 w.heap.size (fun _ => True) (.slice (some ⟨go10, 0, none⟩) x3_1.length co10) x3_1 from (by (with_reducible repeat (first | apply Kd.R_alloc | apply Kd.R_drewN | apply Kd.R_drew)); exact HO_3.out)); obtain ⟨ce12, hcl12, hM12, hcc12, hfr12⟩ := Kd.R_elem HX12.out z55 (x4_1 : Int) (of_decide_eq_true za) (by have h_ : (x4_1 : Int) < ((x3_1.length : Int) : Int) := of_decide_eq_true za; first | exact h_ | (have e_ := (Kd.R_reads' HO_3.out).1; omega) | simpa using h_); obtain rfl := k55_openM hM12; have HP12 := Kd.R_seg HX12.out (x4_1 : Int) (of_decide_eq_true za) (by have h_ : (x4_1 : Int) < ((x3_1.length : Int) : Int) := of_decide_eq_true za; first | exact h_ | (have e_ := (Kd.R_reads' HO_3.out).1; omega) | simpa using h_) (seg := [.int .i64 t17, .int .i64 t18]) (j := 0) hcl12 hcc12 (show 2 ≤ 2 from by decide) (x' := (⟨t17, t18⟩ : S55)) (k55_mkM _ _ _ (⟨t17, t18⟩ : S55) ) (fun _ hk => hk); have hx12_0 := hcc12 0 _ rfl; (try simp only [show (k55).sz = 2 from rfl, Nat.mul_one, Nat.add_zero] at hx12_0); have hf12_0 := hfr12 0; (try simp only [show (k55).sz = 2 from rfl, Nat.mul_one, Nat.add_zero] at hf12_0); have hx12_1 := hcc12 1 _ rfl; (try simp only [show (k55).sz = 2 from rfl, Nat.mul_one, Nat.add_zero] at hx12_1); have hf12_1 := hfr12 1; (try simp only [show (k55).sz = 2 from rfl, Nat.mul_one, Nat.add_zero] at hf12_1); clear hcl12 hcc12 hfr12; (try clear hM12)) | ((with_reducible refine gate_store (t := 55) (p := 21) rfl ?_); refine store_event (t := 55) (p := 21) (v := ?vo_w13) (w1 := ((w11.setCell ⟨go10, (x4_1 : Int).toNat * 2, none⟩ (.int .i64 t17)).setCell ⟨go10, (x4_1 : Int).toNat * 2 + 1, none⟩ (.int .i64 t18))) ?hg ?ho ?hn ?hr ?_; (case ho => rfl); (case hg => rfl); (case hn => rfl); (case hr => first | (go_simp; done) | (go_simp; rfl)); intro w13 hw; have hg : w11.grownBy w13 (some go10) := (by rw [hw]; exact HP12.2); have hp_ : Kd.R k55 55 w13 w.heap.size (fun _ => True) (.slice (some ⟨go10, 0, none⟩) x3_1.length co10) y15 := (by rw [hw, Ny15.out]; exact HP12.1); clear HP12; have n0_ := Aside0.mk (hp_); have n1_ := Aside0.mk ((by rw [hw]; exact below_set (below_set (HB.out) GB10.out) GB10.out : Below w.heap.size w w13)); clear HO_3; clear HB; have HO_3 := n0_; have HB := n1_; clear n0_ n1_; clear hg hw hp_))
        go_roundg k1
        case measure => have := HK1.out; omega
        case rel => exact ⟨(y15), (wrap64 (x4_1 + 1)), zs, H', ⟨by have := HK1.out; omega⟩, ⟨by (with_reducible repeat (first | apply Kd.R_alloc | apply Kd.R_drewN | apply Kd.R_drew)); exact HO_3.out⟩, ⟨zb⟩⟩
       rw [if_neg c9] at H
       exact absurd H (by simp)
      rw [if_neg c7] at H
      exact absurd H (by simp)
     rw [if_neg c6] at H
     have c6b0 : decide (x4_1 < (l0.length : Int)) = false := decide_eq_false c6
     clear c6
     obtain rfl := Option.some.inj H
     go_wp2
     go_ret
     exact ⟨_, ze, by (with_reducible repeat (first | apply Kd.R_alloc | apply Kd.R_drewN | apply Kd.R_drew)); exact HO_3.out, zb⟩
  rw [if_neg c3] at H
  exact absurd H (by simp)
 rw [if_neg c2] at H
 exact absurd H (by simp)
def impl_PairsFault.T8 : Bool × List (List Nat × List Nat) := (true, [([], []), ([0], [0]), ([1], [1]), ([2], [2]), ([2], [2]), ([2], [2]), ([5, 2], [2, 5]), ([4, 6, 2], [2, 4, 6]), ([7, 2], [2, 7]), ([3, 8, 2, 2], [2, 3, 8]), ([9, 2], [2, 9]), ([2, 10], [2, 10]), ([11, 9], [11])])
def impl_PairsFault.B8 : List Nat := [0, 1, 3, 7, 7, 7, 39, 119, 247, 511, 1023, 2047, 4095]
theorem impl_PairsFault.tab8 : rtab .any (opsOf Tryz.f29 8) = impl_PairsFault.T8 := by kernel_rfl
theorem impl_PairsFault.bits8 : waitsOk impl_PairsFault.T8.2 impl_PairsFault.B8 = true := by kernel_rfl
set_option maxHeartbeats 8000000 in
set_option maxRecDepth 100000 in
theorem impl_PairsFault.calls (k : Nat) (A0 : Option Addr) (c0 : Nat) (l0 : List (S55)) (r : Int) (w : World) (hr0 : Kd.C k55 w A0 l0.length l0) (hc0 : l0.length ≤ c0) (h : impl_PairsFault.f k l0 = some r) :
 Calls Tryz.prog 29 #[.slice A0 l0.length c0] w fun e w' => e = .returned (.int .i64 r) ∧ Below w.heap.size w w' := by
 have hu55 := Tryz.underlying55
 have HR0 := Aside0.mk hr0
 have HC0 := Aside0.mk hc0
 clear hr0 hc0
 have HB := Aside0.mk (Below.refl w.heap.size w)
 have H : (if (l0.length : Int) > 400 then (some 2) else (impl_PairsFault.l0 k l0 l0 (l0.length : Int) 0)) = some r := h
 clear h
 by_cases c2 : (l0.length : Int) > 400
 ·rw [if_pos c2] at H
  have c2b0 : decide (400 < (l0.length : Int)) = true := decide_eq_true c2
  have c2b1 : decide (400 < l0.length) = true := decide_eq_true (by omega)
  clear c2
  obtain rfl := Option.some.inj H
  go_enter Tryz.func29, Tryz.ntmps29
  go_wp2
  go_ret
  exact ⟨ze, zb⟩
 rw [if_neg c2] at H
 have c2b0 : decide (400 < (l0.length : Int)) = false := decide_eq_false c2
 have c2b1 : decide (400 < l0.length) = false := decide_eq_false (by omega)
 clear c2
 have H' := Aside0.mk H
 clear H
 go_enter Tryz.func29, Tryz.ntmps29
 go_wp2
 go_loopg [10] k (fun kq v10 w' => ∃ (x10_1 : Int), v10 = .int .i64 x10_1 ∧ Aside0 (impl_PairsFault.l0 kq l0 l0 (l0.length : Int) x10_1 = some r) ∧ Aside0 (kq ≤ k) ∧ Aside0 (Below w.heap.size w w'))
 case atStart => exact ⟨(0), zs, H', ⟨Nat.le_refl _⟩, ⟨zb⟩⟩
 case round =>
  clear H'
  try clear c2
  try clear c2b0
  try clear c2b1
  try clear p2
  obtain ⟨x10_1, rfl, HA, HK1, HB⟩ := hrel
  cases gk with
  | zero => exact absurd HA.out (by simp [impl_PairsFault.l0])
  | succ k1 =>
   have H := HA.out
   clear HA
   simp only [impl_PairsFault.l0] at H
   by_cases c3 : x10_1 < (l0.length : Int)
   ·rw [if_pos c3] at H
    have c3b0 : decide (x10_1 < (l0.length : Int)) = true := decide_eq_true c3
    clear c3
    by_cases c4 : 0 ≤ x10_1
    ·rw [if_pos c4] at H
     have c4b0 : decide (0 ≤ x10_1) = true := decide_eq_true c4
     clear c4
     by_cases c5 : x10_1 < (l0.length : Int)
     ·rw [if_pos c5] at H
      have c5b0 : decide (x10_1 < (l0.length : Int)) = true := decide_eq_true c5
      clear c5
      have HC6 := Aside0.mk H
      clear H
      have p307 : 0 ≤ (x10_1 : Int) := of_decide_eq_true za
      have q41 : x10_1 < (l0.length : Int) := of_decide_eq_true za
      obtain ⟨ad41, e307, hx41_0, hx41_1⟩ := at_T55 (Kd.C_below HR0.out HB.out) x10_1 p307 q41
      cases e307
      replace p307 := eq_true p307
      replace q41 := eq_true q41
      go_upto_region 6 with (first | ((with_reducible refine gate_dst (N := 4) rfl ?_); refine box_event ?hg (N := 4) ?hd (cs := #[.int .i64 0, .int .i64 0]) (t := 55) ?hr ?_; (case hd => rfl); (case hg => rfl); (case hr => first | (go_simp; done) | (go_simp; rfl)); intro gb40 hg w7 hbox hb; have n0_ := Aside0.mk (below_step zb hb); have n1_ := Aside0.mk (hbox); have n2_ := Aside0.mk ((by rw [hg]; exact (below_size zb) : w.heap.size ≤ gb40)); have n3_ := n2_; clear HB; have HB := n0_; have BK40 := n1_; have GW40 := n2_; have GE40 := n3_; clear n0_ n1_ n2_ n3_; clear hb hbox hg; obtain ⟨hcz8_0, hcz8_1, hfz8_0, hfz8_1⟩ := Go.Proofs.YtocdahbinombkaaGreat.Lv.blks2 BK40.out))
      (try simp only [Act.put, List.setIfInBounds_toArray, List.set_cons_zero, List.set_cons_succ])
      go_cut [15] (fun v15 wc => ∃ (kq : Nat) (x15_5 : Bool), v15 = .bool x15_5 ∧ Aside0 (impl_PairsFault.j1 kq l0 x10_1 l0 (l0.length : Int) x10_1 x15_5 ((rd_T55 l0 x10_1).f0) ((rd_T55 l0 x10_1).f1) = some r) ∧ Aside0 (kq ≤ k1) ∧ Aside0 (wc.heap[gb40]? = some (.cells #[.int .i64 ((rd_T55 l0 x10_1).f0), .int .i64 ((rd_T55 l0 x10_1).f1)] 55 (0, 0))) ∧ Aside0 (Below w.heap.size w wc))
      case first =>
       have H := HC6.out
       clear HC6
       replace H := Option.bind_eq_some_iff.mp H
       obtain ⟨t44, A90, H⟩ := H
       replace H : (if t44 = true then ((impl_isKey.f ((rd_T55 l0 x10_1).f1)).bind fun t43 => (impl_PairsFault.j1 k1 l0 x10_1 l0 (l0.length : Int) x10_1 (!t43) ((rd_T55 l0 x10_1).f0) ((rd_T55 l0 x10_1).f1))) else (impl_PairsFault.j1 k1 l0 x10_1 l0 (l0.length : Int) x10_1 true ((rd_T55 l0 x10_1).f0) ((rd_T55 l0 x10_1).f1))) = some r := H
       have A9 := Aside0.mk A90
       clear A90
       by_cases c10 : t44 = true
       ·subst c10
        have H1 : ((impl_isKey.f ((rd_T55 l0 x10_1).f1)).bind fun t43 => (impl_PairsFault.j1 k1 l0 x10_1 l0 (l0.length : Int) x10_1 (!t43) ((rd_T55 l0 x10_1).f0) ((rd_T55 l0 x10_1).f1))) = some r := by rw [if_pos rfl] at H; exact H
        clear H
        have H := H1
        clear H1
        replace H := Option.bind_eq_some_iff.mp H
        obtain ⟨t43, A45, H⟩ := H
        replace H : (impl_PairsFault.j1 k1 l0 x10_1 l0 (l0.length : Int) x10_1 (!t43) ((rd_T55 l0 x10_1).f0) ((rd_T55 l0 x10_1).f1)) = some r := H
        have A11 := Aside0.mk A45
        clear A45
        have H' := Aside0.mk H
        clear H
        obtain ⟨hcz12_0, hcz12_1, hfz12_0, hfz12_1⟩ := Go.Proofs.YtocdahbinombkaaGreat.Lv.blks2 BK40.out
        go_wp2_with (first | ((with_reducible refine gate_callee (f := 69) rfl ?_); refine goesL_ (some 18) rfl rfl Tryz.func69 (by kernel_rfl) rfl #[.int .i64 ((rd_T55 l0 x10_1).f0)] rfl zm ?_; (with_reducible refine (impl_isValue.calls ((rd_T55 l0 x10_1).f0) true _ A9.out).mono ?_); rintro e w' ⟨rfl, ⟨nd, rfl⟩⟩; refine ⟨_, rfl, ?_⟩) | (go_at_call 58; (with_reducible refine (impl_isKey.calls ((rd_T55 l0 x10_1).f1) t43 _ A11.out).mono ?_); rintro e w' ⟨rfl, ⟨nd, rfl⟩⟩))
        go_meet
        case rel => exact ⟨_, (!t43), zs, H', ⟨by have := HK1.out; first | omega | exact Nat.le_refl _⟩, ⟨by (with_reducible repeat (first | refine blk_drewN ?_ _ | refine blk_drew ?_ | refine blk_alloc ?_ _)); refine blk_put (cs := #[.int .i64 ((rd_T55 l0 x10_1).f0), .int .i64 0]) ?_ 1 _ rfl; (with_reducible repeat (first | refine blk_drewN ?_ _ | refine blk_drew ?_ | refine blk_alloc ?_ _)); refine blk_put (cs := #[.int .i64 0, .int .i64 0]) ?_ 0 _ rfl; (with_reducible repeat (first | refine blk_drewN ?_ _ | refine blk_drew ?_ | refine blk_alloc ?_ _)); exact BK40.out⟩, ⟨zb⟩⟩
       replace c10 := Bool.eq_false_iff.mpr c10
       subst c10
       have H1 : (impl_PairsFault.j1 k1 l0 x10_1 l0 (l0.length : Int) x10_1 true ((rd_T55 l0 x10_1).f0) ((rd_T55 l0 x10_1).f1)) = some r := by rw [if_neg (show ¬ (false = true) by decide)] at H; exact H
       clear H
       have H := H1
       clear H1
       have H' := Aside0.mk H
       clear H
       obtain ⟨hcz13_0, hcz13_1, hfz13_0, hfz13_1⟩ := Go.Proofs.YtocdahbinombkaaGreat.Lv.blks2 BK40.out
       go_wp2_with (first | ((with_reducible refine gate_callee (f := 69) rfl ?_); refine goesL_ (some 18) rfl rfl Tryz.func69 (by kernel_rfl) rfl #[.int .i64 ((rd_T55 l0 x10_1).f0)] rfl zm ?_; (with_reducible refine (impl_isValue.calls ((rd_T55 l0 x10_1).f0) false _ A9.out).mono ?_); rintro e w' ⟨rfl, ⟨nd, rfl⟩⟩; refine ⟨_, rfl, ?_⟩))
       go_meet
       case rel => exact ⟨_, (true), zs, H', ⟨by have := HK1.out; first | omega | exact Nat.le_refl _⟩, ⟨by (with_reducible repeat (first | refine blk_drewN ?_ _ | refine blk_drew ?_ | refine blk_alloc ?_ _)); refine blk_put (cs := #[.int .i64 ((rd_T55 l0 x10_1).f0), .int .i64 0]) ?_ 1 _ rfl; (with_reducible repeat (first | refine blk_drewN ?_ _ | refine blk_drew ?_ | refine blk_alloc ?_ _)); refine blk_put (cs := #[.int .i64 0, .int .i64 0]) ?_ 0 _ rfl; (with_reducible repeat (first | refine blk_drewN ?_ _ | refine blk_drew ?_ | refine blk_alloc ?_ _)); exact BK40.out⟩, ⟨zb⟩⟩
      case rest =>
       clear HC6
       try clear c1
       try clear c2
       try clear c2b0
       try clear c2b1
       try clear p2
       try clear c3
       try clear c3b0
       try clear p3
       try clear q3
       try clear hx3
       try clear c4
       try clear c4b0
       try clear c5
       try clear c5b0
       try clear c6
       try clear c10
       try clear hcz12_0 hcz12_1
       try clear hcz13_0 hcz13_1
       try clear hcz8_0 hcz8_1
       try clear hfz12_0 hfz12_1
       try clear hfz13_0 hfz13_1
       try clear hfz8_0 hfz8_1
       try clear hx41_0
       try clear hx41_1
       try clear p2
       try clear p307
       try clear q41
       obtain ⟨kq, x15_5, rfl, HA, HJ5, BK40, HB⟩ := hcut
       cases kq with
       | zero => exact absurd HA.out (by simp [impl_PairsFault.j1])
       | succ kj5 =>
        have H := HA.out
        clear HA
        simp only [impl_PairsFault.j1] at H
        by_cases c14 : x15_5 = true
        ·subst c14
         have H1 : (some 3) = some r := by rw [if_pos rfl] at H; exact H
         clear H
         have H := H1
         clear H1
         obtain rfl := Option.some.inj H
         go_wp2
         go_ret
         exact ⟨ze, zb⟩
        replace c14 := Bool.eq_false_iff.mpr c14
        subst c14
        have H1 : (if x10_1 > 0 then (if 0 ≤ (wrap64 (x10_1 - 1)) then (if (wrap64 (x10_1 - 1)) < (l0.length : Int) then ((impl_comparePairs.f kj5 ((rd_T55 l0 x10_1).f0) ((rd_T55 l0 x10_1).f1) ((rd_T55 l0 (wrap64 (x10_1 - 1))).f0) ((rd_T55 l0 (wrap64 (x10_1 - 1))).f1)).bind fun t42 => (if t42 ≤ 0 then (some 1) else (impl_PairsFault.l0 kj5 l0 l0 (l0.length : Int) (wrap64 (x10_1 + 1))))) else (none)) else (none)) else (impl_PairsFault.l0 kj5 l0 l0 (l0.length : Int) (wrap64 (x10_1 + 1)))) = some r := by rw [if_neg (show ¬ (false = true) by decide)] at H; exact H
        clear H
        have H := H1
        clear H1
        by_cases c15 : x10_1 > 0
        ·rw [if_pos c15] at H
         have c15b0 : decide (0 < x10_1) = true := decide_eq_true c15
         clear c15
         obtain ⟨ji16, hji16⟩ : ∃ j_ : Int, (wrap64 (x10_1 - 1)) = j_ := ⟨_, rfl⟩
         replace H : (if 0 ≤ (ji16) then (if (ji16) < (l0.length : Int) then ((impl_comparePairs.f kj5 ((rd_T55 l0 x10_1).f0) ((rd_T55 l0 x10_1).f1) ((rd_T55 l0 (ji16)).f0) ((rd_T55 l0 (ji16)).f1)).bind fun t42 => (if t42 ≤ 0 then (some 1) else (impl_PairsFault.l0 kj5 l0 l0 (l0.length : Int) (wrap64 (x10_1 + 1))))) else (none)) else (none)) = some r := by first | (rw [hji16] at H; exact H) | (simp only [hji16] at H ⊢; exact H)
         have hji16w : (IntKind.i64.wrap (x10_1 - 1)) = ji16 := (i64_w _).trans hji16
         by_cases c17 : 0 ≤ (ji16)
         ·rw [if_pos c17] at H
          have c17b0 : decide (0 ≤ (ji16)) = true := decide_eq_true c17
          clear c17
          by_cases c18 : (ji16) < (l0.length : Int)
          ·rw [if_pos c18] at H
           have c18b0 : decide ((ji16) < (l0.length : Int)) = true := decide_eq_true c18
           clear c18
           replace H := Option.bind_eq_some_iff.mp H
           obtain ⟨t42, A46, H⟩ := H
           replace H : (if t42 ≤ 0 then (some 1) else (impl_PairsFault.l0 kj5 l0 l0 (l0.length : Int) (wrap64 (x10_1 + 1)))) = some r := H
           have A19 := Aside0.mk A46
           clear A46
           by_cases c20 : t42 ≤ 0
           ·rw [if_pos c20] at H
            have c20b0 : decide (t42 ≤ 0) = true := decide_eq_true c20
            clear c20
            obtain rfl := Option.some.inj H
            try go_wp2
            all_goals (try (exfalso; have q_ := of_decide_eq_true c20b0; omega))
            have n0_ := Aside0.mk (blk_drew BK40.out)
            have n1_ := Aside0.mk (below_drew1 HB.out)
            clear BK40
            clear HB
            have BK40 := n0_
            have HB := n1_
            clear n0_ n1_
            have p311 : 0 ≤ ((ji16) : Int) := of_decide_eq_true za
            have q39 : (ji16) < (l0.length : Int) := of_decide_eq_true za
            obtain ⟨ad39, e311, hx39_0, hx39_1⟩ := at_T55 HR0.out (ji16) p311 q39
            have hw39_1 := hx39_1
            have hw39_0 := hx39_0
            obtain rfl : ad41 = ad39 := (by injection e311)
            replace hx39_0 := zx HB hx39_0
            replace hx39_1 := zx HB hx39_1
            replace p311 := eq_true p311
            replace q39 := eq_true q39
            refine start_ (n := 13) (S := fun w' => w'.cell? ⟨gb40, 0, none⟩ = some (.int .i64 ((rd_T55 l0 x10_1).f0)) ∧ w'.cell? ⟨gb40, 1, none⟩ = some (.int .i64 ((rd_T55 l0 x10_1).f1)) ∧ w'.cell? (ad41.add (((ji16)).toNat * 2)) = some (.int .i64 ((rd_T55 l0 (ji16)).f0)) ∧ w'.cell? ⟨(ad41.add (((ji16)).toNat * 2)).block, (ad41.add (((ji16)).toNat * 2)).off + 1, none⟩ = some (.int .i64 ((rd_T55 l0 (ji16)).f1))) (ds := []) #[false, false, false, false, false, false, false, false, false, false, false, false, false] (by kernel_rfl) rfl rfl ⟨(blk_cell BK40.out 0).trans rfl, (blk_cell BK40.out 1).trans rfl, ((HB.out.cell (World.block_lt_of_cell? w _ hw39_0)).trans hw39_0), ((HB.out.cell (World.block_lt_of_cell? w _ hw39_1)).trans hw39_1)⟩ (fun hHeld => ?_); refine with_tabW impl_PairsFault.tab8 impl_PairsFault.bits8 (fun HT_ HW_ => ?_)
            generalize wc.drew = w21 at BK40 HB hx39_0 hx39_1 hHeld ⊢
            refine zp 0 27 ?_; refine zp 1 28 ?_; refine zp 2 29 ?_; refine zp 4 31 ?_; refine zp 5 32 ?_; refine zp 6 33 ?_; refine zp 7 34 ?_; refine zt 3 30 ?_; refine zt 8 35 ?_
            refine one_ (i := 9) (N := some 36) #[true, true, true, true, true, true, true, true, true, true, false, false, false] rfl rfl (one_of HT_.out (by kernel_rfl)) (by decide) (fun K hK => ?_)
            refine goes_ Tryz.func70 (by kernel_rfl) rfl #[.agg #[.int .i64 ((rd_T55 l0 x10_1).f0), .int .i64 ((rd_T55 l0 x10_1).f1)], .agg #[.int .i64 ((rd_T55 l0 (ji16)).f0), .int .i64 ((rd_T55 l0 (ji16)).f1)]] (by rfl) rfl rfl (by (try simp only [List.map_toArray, List.map_cons, List.map_nil]); first | done | (simp only [hji16]; rfl) | rfl | (simp only [List.length_drop, List.length_take]; rfl)) ?_
            with_reducible refine (impl_comparePairs.calls kj5 ((rd_T55 l0 x10_1).f0) ((rd_T55 l0 x10_1).f1) ((rd_T55 l0 (ji16)).f0) ((rd_T55 l0 (ji16)).f1) t42 _ A19.out).mono ?_
            rintro e w22 ⟨rfl, hb⟩
            refine ⟨_, rfl, ?_⟩
            have n0_ := Aside0.mk (blk_below (g := gb40) (o := .cells #[.int .i64 ((rd_T55 l0 x10_1).f0), .int .i64 ((rd_T55 l0 x10_1).f1)] 55 (0, 0)) zk hb)
            have n1_ := Aside0.mk (below_step zb hb)
            clear BK40
            clear HB
            have BK40 := n0_
            have HB := n1_
            clear n0_ n1_
            (try clear hb)
            (try clear hb2)
            (try clear hk)
            (try clear hi)
            refine hK.out _ _ ⟨(blk_cell BK40.out 0).trans rfl, (blk_cell BK40.out 1).trans rfl, ((HB.out.cell (World.block_lt_of_cell? w _ hw39_0)).trans hw39_0), ((HB.out.cell (World.block_lt_of_cell? w _ hw39_1)).trans hw39_1)⟩ (fun hHeld => ?_)
            clear hK K
            refine norm_ (a' := ?_) ?_ ?_
            rotate_left
            ·show Act.put _ (some 36) _ = _
             simp only [Act.put, List.setIfInBounds_toArray, List.set_cons_zero, List.set_cons_succ, i64_w, i32_w]
             rfl
            refine zp 10 37 ?_; refine zp 11 38 ?_; refine zp 12 26 ?_
            refine done_ (done_of HT_.out (by kernel_rfl)) ?_
            try go_wp2
            go_ret
            exact ⟨by first | rfl | (simp [errW_none, errW_some] <;> rfl) | (simp only [← hji16]; first | rfl | (simp [errW_none, errW_some] <;> rfl)) | (simp [*, errW_none, errW_some] <;> rfl), zb⟩
           rw [if_neg c20] at H
           have c20b0 : decide (t42 ≤ 0) = false := decide_eq_false c20
           clear c20
           have H' := Aside0.mk H
           clear H
           try go_wp2
           all_goals (try (exfalso; have q_ := of_decide_eq_false c20b0; omega))
           have n0_ := Aside0.mk (blk_drew BK40.out)
           have n1_ := Aside0.mk (below_drew1 HB.out)
           clear BK40
           clear HB
           have BK40 := n0_
           have HB := n1_
           clear n0_ n1_
           have p311 : 0 ≤ ((ji16) : Int) := of_decide_eq_true za
           have q39 : (ji16) < (l0.length : Int) := of_decide_eq_true za
           obtain ⟨ad39, e311, hx39_0, hx39_1⟩ := at_T55 HR0.out (ji16) p311 q39
           have hw39_1 := hx39_1
           have hw39_0 := hx39_0
           obtain rfl : ad41 = ad39 := (by injection e311)
           replace hx39_0 := zx HB hx39_0
           replace hx39_1 := zx HB hx39_1
           replace p311 := eq_true p311
           replace q39 := eq_true q39
           refine start_ (n := 13) (S := fun w' => w'.cell? ⟨gb40, 0, none⟩ = some (.int .i64 ((rd_T55 l0 x10_1).f0)) ∧ w'.cell? ⟨gb40, 1, none⟩ = some (.int .i64 ((rd_T55 l0 x10_1).f1)) ∧ w'.cell? (ad41.add (((ji16)).toNat * 2)) = some (.int .i64 ((rd_T55 l0 (ji16)).f0)) ∧ w'.cell? ⟨(ad41.add (((ji16)).toNat * 2)).block, (ad41.add (((ji16)).toNat * 2)).off + 1, none⟩ = some (.int .i64 ((rd_T55 l0 (ji16)).f1))) (ds := []) #[false, false, false, false, false, false, false, false, false, false, false, false, false] (by kernel_rfl) rfl rfl ⟨(blk_cell BK40.out 0).trans rfl, (blk_cell BK40.out 1).trans rfl, ((HB.out.cell (World.block_lt_of_cell? w _ hw39_0)).trans hw39_0), ((HB.out.cell (World.block_lt_of_cell? w _ hw39_1)).trans hw39_1)⟩ (fun hHeld => ?_); refine with_tabW impl_PairsFault.tab8 impl_PairsFault.bits8 (fun HT_ HW_ => ?_)
           generalize wc.drew = w23 at BK40 HB hx39_0 hx39_1 hHeld ⊢
           refine zp 0 27 ?_; refine zp 1 28 ?_; refine zp 2 29 ?_; refine zp 4 31 ?_; refine zp 5 32 ?_; refine zp 6 33 ?_; refine zp 7 34 ?_; refine zt 3 30 ?_; refine zt 8 35 ?_
           refine one_ (i := 9) (N := some 36) #[true, true, true, true, true, true, true, true, true, true, false, false, false] rfl rfl (one_of HT_.out (by kernel_rfl)) (by decide) (fun K hK => ?_)
           refine goes_ Tryz.func70 (by kernel_rfl) rfl #[.agg #[.int .i64 ((rd_T55 l0 x10_1).f0), .int .i64 ((rd_T55 l0 x10_1).f1)], .agg #[.int .i64 ((rd_T55 l0 (ji16)).f0), .int .i64 ((rd_T55 l0 (ji16)).f1)]] (by rfl) rfl rfl (by (try simp only [List.map_toArray, List.map_cons, List.map_nil]); first | done | (simp only [hji16]; rfl) | rfl | (simp only [List.length_drop, List.length_take]; rfl)) ?_
           with_reducible refine (impl_comparePairs.calls kj5 ((rd_T55 l0 x10_1).f0) ((rd_T55 l0 x10_1).f1) ((rd_T55 l0 (ji16)).f0) ((rd_T55 l0 (ji16)).f1) t42 _ A19.out).mono ?_
           rintro e w24 ⟨rfl, hb⟩
           refine ⟨_, rfl, ?_⟩
           have n0_ := Aside0.mk (blk_below (g := gb40) (o := .cells #[.int .i64 ((rd_T55 l0 x10_1).f0), .int .i64 ((rd_T55 l0 x10_1).f1)] 55 (0, 0)) zk hb)
           have n1_ := Aside0.mk (below_step zb hb)
           clear BK40
           clear HB
           have BK40 := n0_
           have HB := n1_
           clear n0_ n1_
           (try clear hb)
           (try clear hb2)
           (try clear hk)
           (try clear hi)
           refine hK.out _ _ ⟨(blk_cell BK40.out 0).trans rfl, (blk_cell BK40.out 1).trans rfl, ((HB.out.cell (World.block_lt_of_cell? w _ hw39_0)).trans hw39_0), ((HB.out.cell (World.block_lt_of_cell? w _ hw39_1)).trans hw39_1)⟩ (fun hHeld => ?_)
           clear hK K
           refine norm_ (a' := ?_) ?_ ?_
           rotate_left
           ·show Act.put _ (some 36) _ = _
            simp only [Act.put, List.setIfInBounds_toArray, List.set_cons_zero, List.set_cons_succ, i64_w, i32_w]
            rfl
           refine zp 10 37 ?_; refine zp 11 38 ?_; refine zp 12 26 ?_
           refine done_ (done_of HT_.out (by kernel_rfl)) ?_
           try go_wp2
           go_roundg kj5
           case measure => have := HK1.out; have := HJ5.out; omega
           case rel => exact ⟨(wrap64 (x10_1 + 1)), zs, H', ⟨by have := HK1.out; have := HJ5.out; omega⟩, ⟨zb⟩⟩
          rw [if_neg c18] at H
          exact absurd H (by simp)
         rw [if_neg c17] at H
         exact absurd H (by simp)
        rw [if_neg c15] at H
        have c15b0 : decide (0 < x10_1) = false := decide_eq_false c15
        clear c15
        have H' := Aside0.mk H
        clear H
        try go_wp2
        have n0_ := Aside0.mk (blk_drew BK40.out)
        have n1_ := Aside0.mk (below_drew1 HB.out)
        clear BK40
        clear HB
        have BK40 := n0_
        have HB := n1_
        clear n0_ n1_
        refine start_ (n := 13) (S := fun w' => True) (ds := []) #[false, false, false, false, false, false, false, false, false, false, false, false, false] (by kernel_rfl) rfl rfl trivial (fun hHeld => ?_); refine with_tabW impl_PairsFault.tab8 impl_PairsFault.bits8 (fun HT_ HW_ => ?_)
        generalize wc.drew = w25 at BK40 HB hHeld ⊢
        refine zp 0 27 ?_; refine zp 1 28 ?_; refine zp 2 29 ?_
        refine pure_ (i := 3) (N := some 30) (v := undef) (a' := ?_) #[true, true, true, true, false, false, false, false, false, false, false, false, false] rfl rfl (any_of HT_.out (by kernel_rfl)) (fun _ _ _ h => h) (Or.inr ⟨by rfl, rfl⟩) ?_ ?_
        rotate_left
        ·simp only [Act.put, List.setIfInBounds_toArray, List.set_cons_zero, List.set_cons_succ, i64_w, i32_w]
         rfl
        refine pure_ (i := 4) (N := some 31) (v := undef) (a' := ?_) #[true, true, true, true, true, false, false, false, false, false, false, false, false] rfl rfl (any_of HT_.out (by kernel_rfl)) (fun _ _ _ h => h) (Or.inr ⟨by rfl, rfl⟩) ?_ ?_
        rotate_left
        ·simp only [Act.put, List.setIfInBounds_toArray, List.set_cons_zero, List.set_cons_succ, i64_w, i32_w]
         rfl
        refine pure_ (i := 5) (N := some 32) (v := undef) (a' := ?_) #[true, true, true, true, true, true, false, false, false, false, false, false, false] rfl rfl (any_of HT_.out (by kernel_rfl)) (fun _ _ _ h => h) (Or.inr ⟨by rfl, rfl⟩) ?_ ?_
        rotate_left
        ·simp only [Act.put, List.setIfInBounds_toArray, List.set_cons_zero, List.set_cons_succ, i64_w, i32_w]
         rfl
        refine pure_ (i := 6) (N := some 33) (v := undef) (a' := ?_) #[true, true, true, true, true, true, true, false, false, false, false, false, false] rfl rfl (any_of HT_.out (by kernel_rfl)) (fun _ _ _ h => h) (Or.inr ⟨by rfl, rfl⟩) ?_ ?_
        rotate_left
        ·simp only [Act.put, List.setIfInBounds_toArray, List.set_cons_zero, List.set_cons_succ, i64_w, i32_w]
         rfl
        refine pure_ (i := 7) (N := some 34) (v := undef) (a' := ?_) #[true, true, true, true, true, true, true, true, false, false, false, false, false] rfl rfl (any_of HT_.out (by kernel_rfl)) (fun _ _ _ h => h) (Or.inr ⟨by rfl, rfl⟩) ?_ ?_
        rotate_left
        ·simp only [Act.put, List.setIfInBounds_toArray, List.set_cons_zero, List.set_cons_succ, i64_w, i32_w]
         rfl
        refine pure_ (i := 8) (N := some 35) (v := undef) (a' := ?_) #[true, true, true, true, true, true, true, true, true, false, false, false, false] rfl rfl (any_of HT_.out (by kernel_rfl)) (fun _ _ _ h => h) (Or.inr ⟨by rfl, rfl⟩) ?_ ?_
        rotate_left
        ·simp only [Act.put, List.setIfInBounds_toArray, List.set_cons_zero, List.set_cons_succ, i64_w, i32_w]
         rfl
        refine pure_ (i := 9) (N := some 36) (v := undef) (a' := ?_) #[true, true, true, true, true, true, true, true, true, true, false, false, false] rfl rfl (any_of HT_.out (by kernel_rfl)) (fun _ _ _ h => h) (Or.inr ⟨by rfl, rfl⟩) ?_ ?_
        rotate_left
        ·simp only [Act.put, List.setIfInBounds_toArray, List.set_cons_zero, List.set_cons_succ, i64_w, i32_w]
         rfl
        refine pure_ (i := 10) (N := some 37) (v := undef) (a' := ?_) #[true, true, true, true, true, true, true, true, true, true, true, false, false] rfl rfl (any_of HT_.out (by kernel_rfl)) (fun _ _ _ h => h) (Or.inr ⟨by rfl, rfl⟩) ?_ ?_
        rotate_left
        ·simp only [Act.put, List.setIfInBounds_toArray, List.set_cons_zero, List.set_cons_succ, i64_w, i32_w]
         rfl
        refine zp 11 38 ?_; refine zp 12 26 ?_
        refine done_ (done_of HT_.out (by kernel_rfl)) ?_
        try go_wp2
        go_roundg kj5
        case measure => have := HK1.out; have := HJ5.out; omega
        case rel => exact ⟨(wrap64 (x10_1 + 1)), zs, H', ⟨by have := HK1.out; have := HJ5.out; omega⟩, ⟨zb⟩⟩
     rw [if_neg c5] at H
     exact absurd H (by simp)
    rw [if_neg c4] at H
    exact absurd H (by simp)
   rw [if_neg c3] at H
   have c3b0 : decide (x10_1 < (l0.length : Int)) = false := decide_eq_false c3
   clear c3
   obtain rfl := Option.some.inj H
   go_wp2
   go_ret
   exact ⟨ze, zb⟩
-- PROOF --
set_option maxHeartbeats 8000000 in
set_option maxRecDepth 100000 in
theorem slices_IndexFunc_impl_Pair.calls (g : Nat) (lb : Array Value) (p : S55 → Bool) (A0 : Option Addr) (c0 : Nat) (l0 : List (S55)) (w : World) (hr0 : Kd.C k55 w A0 l0.length l0)
 (hp : ∀ (W : World) (x : S55), x ∈ l0 → Below w.heap.size w W → Calls Tryz.prog g (#[.agg #[.int .i64 x.f0, .int .i64 x.f1]] ++ lb) W fun e w' => e = .returned (.bool (p x)) ∧ Below W.heap.size W w')
 (eg : ∀ args w, (callFunc g args).run Tryz.prog w = .ok (.enter g args) w) :
 Calls Tryz.prog 71 #[.slice A0 l0.length c0, .func (.func g) #[] lb] w fun e w' => e = .returned (.int .i64 (Go.Proofs.YtocdahbinombkaaGreat.Lb.idx p l0)) ∧ Below w.heap.size w w' := by
 have hu55 := Tryz.underlying55
 have hn := hr0.2.1
 have HR0 := Aside0.mk hr0
 clear hr0
 go_enter Tryz.func71, Tryz.ntmps71
 go_wp2
 go_loopg [5, 8] (l0.length + 1) (fun gg _ s8 wr => ∃ x : Int, 0 ≤ x ∧ x ≤ (l0.length : Int) ∧ Aside0 (l0.length + 1 - x.toNat ≤ gg) ∧ s8 = .int .i64 x ∧ Aside0 (Below w.heap.size w wr) ∧ Aside0 (∀ j : Nat, j < x.toNat → p (l0.getD j z55) = false))
 case atStart => exact ⟨0, by omega, by omega, ⟨by simp⟩, rfl, ⟨Below.refl _ _⟩, ⟨fun j hj => by simp at hj⟩⟩
 case round =>
  obtain ⟨x, hx0, hx1, HG, rfl, HB, HA⟩ := hrel
  by_cases c3 : x < (l0.length : Int)
  ·have c3b0 : decide (x < (l0.length : Int)) = true := decide_eq_true c3
   have c4b0 : decide (0 ≤ x) = true := decide_eq_true hx0
   obtain ⟨ad, e1, q0, q1⟩ := at_T55 HR0.out x hx0 c3
   cases e1
   replace q0 := zx HB q0
   replace q1 := zx HB q1
   have hx : x.toNat < l0.length := by omega
   have hrd : rd_T55 l0 x = l0.getD x.toNat z55 := rfl
   have hcall := hp wr (rd_T55 l0 x) (by rw [hrd, List.getD_eq_getElem?_getD, List.getElem?_eq_getElem hx]; exact List.getElem_mem hx) HB.out
   clear hp hrd
   cases hq : p (rd_T55 l0 x) with
   | true =>
    rw [hq] at hcall
    have HQ := Aside0.mk hq
    clear hq
    go_wp2_with (go_at_fn g; refine hcall.mono ?_; rintro e w' ⟨rfl, hb'⟩)
    go_ret
    refine ⟨?_, HB.out.trans (hb'.mono HB.out.size)⟩
    unfold Go.Proofs.YtocdahbinombkaaGreat.Lb.idx
    rw [Go.Proofs.YtocdahbinombkaaGreat.Lb.idx_hit p z55 l0 x.toNat 0 hx HA.out HQ.out]
    rw [show (0 : Int) + (x.toNat : Int) = x by omega]
    rfl
   | false =>
    rw [hq] at hcall
    have HQ := Aside0.mk hq
    clear hq
    go_wp2_with (go_at_fn g; refine hcall.mono ?_; rintro e w' ⟨rfl, hb'⟩)
    go_roundg (l0.length + 1 - (x + 1).toNat)
    case measure => have := HG.out; omega
    case rel => exact ⟨x + 1, by omega, by omega, ⟨by omega⟩, by first | rfl | go_num, ⟨HB.out.trans (hb'.mono HB.out.size)⟩, ⟨fun j hj => by
     by_cases e : j = x.toNat
     ·subst e; exact HQ.out
     exact HA.out j (by omega)⟩⟩
  have hxx : x = (l0.length : Int) := by omega
  have c3b0 : decide (x < (l0.length : Int)) = false := decide_eq_false c3
  have hm : Go.Proofs.YtocdahbinombkaaGreat.Lb.idx p l0 = -1 := by
   unfold Go.Proofs.YtocdahbinombkaaGreat.Lb.idx
   exact Go.Proofs.YtocdahbinombkaaGreat.Lb.idx_miss p z55 l0 0 (fun j hj => HA.out j (by omega))
  have HM := Aside0.mk hm
  clear hm
  have HX := Aside0.mk hxx
  clear hxx
  go_wp2
  go_ret
  exact ⟨by rw [HM.out]; rfl, HB.out⟩
-- PROOF --
set_option maxHeartbeats 8000000 in
set_option maxRecDepth 100000 in
theorem slices_ContainsFunc_impl_Pair.calls (g : Nat) (lb : Array Value) (p : S55 → Bool) (A0 : Option Addr) (c0 : Nat) (l0 : List (S55)) (w : World) (hr0 : Kd.C k55 w A0 l0.length l0)
 (hp : ∀ (W : World) (x : S55), x ∈ l0 → Below w.heap.size w W → Calls Tryz.prog g (#[.agg #[.int .i64 x.f0, .int .i64 x.f1]] ++ lb) W fun e w' => e = .returned (.bool (p x)) ∧ Below W.heap.size W w')
 (eg : ∀ args w, (callFunc g args).run Tryz.prog w = .ok (.enter g args) w) :
 Calls Tryz.prog 30 #[.slice A0 l0.length c0, .func (.func g) #[] lb] w fun e w' => e = .returned (.bool (l0.any p)) ∧ Below w.heap.size w w' := by
 have hcon := slices_IndexFunc_impl_Pair.calls g lb p A0 c0 l0 w hr0 hp eg
 rw [← Go.Proofs.YtocdahbinombkaaGreat.Lb.idx_any p l0]
 clear hr0 hp
 generalize Go.Proofs.YtocdahbinombkaaGreat.Lb.idx p l0 = r at hcon ⊢
 have HC := Aside0.mk hcon
 clear hcon
 go_enter Tryz.func30, Tryz.ntmps30
 go_wp2_with (go_at_call 71; refine HC.out.mono ?_; rintro e w' ⟨rfl, hb'⟩)
 go_ret
 exact ⟨rfl, hb'⟩
end Go.Proofs.YtocdahbinombkaaGreat.P
