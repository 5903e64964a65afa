import Derived.Test.YtonbnmaelepcbaaZz
import Derived.Test.YtonbnmaelepcbaaP0
import Derived.Test.YtonbnmaelepcbaaPDm1
import Derived.Test.YtonbnmaelepcbaaWRepsOne
import Derived.Test.YtonbnmaelepcbaaLb
import Derived.Test.YtonbnmaelepcbaaLv
import Derived.IntWalk
import Derived.Shelf.Abstract
namespace Go.Proofs.Ytonbnmaelepcbaa.P
open Go.RowKit Go.Proofs.YtonbnmaelepcbaaW.PrintWords Go.Proofs.YtonbnmaelepcbaaW.PrintLast Go.Proofs.YtonbnmaelepcbaaW.PrintMore
attribute [local go_sem] max2_int min2_int max_two min_two max_three min_three max_four min_four   -- for this text's walks alone
set_option linter.unusedVariables false
set_option linter.unusedSimpArgs false
set_option maxHeartbeats 8000000 in
set_option maxRecDepth 100000 in
theorem laws_markUndoS.calls (k : Nat) (P0_ : Nat → Prop) (u9000_ : Value) (l0 : List (S96)) (a1 : Int) (r1 : Int) (r2 : List (S96)) (w0 w : World) (hB : Below w0.heap.size w0 w) (ho0 : Kd.R k96 96 w w0.heap.size P0_ u9000_ l0) (h : laws_markUndoS.f k l0 a1 = some (r1, r2)) :
 Calls Try.prog 131 #[u9000_, .int .i64 a1] w fun e w' => e = .returned (.int .i64 r1) ∧ Kd.R k96 96 w' w0.heap.size (fun k_ => (P0_ k_ ∨ w.heap.size ≤ k_)) u9000_ r2 ∧ Below w0.heap.size w0 w' ∧ Kept w w' (fun k_ => P0_ k_) := by
 have HO0 := Aside0.mk (show Kd.R k96 96 w w0.heap.size (fun k_ => (P0_ k_ ∨ w.heap.size ≤ k_)) u9000_ l0 from Kd.R_mono ho0 (fun k_ hk => (.inl hk)))
 have HK := Aside0.mk (Kept.refl w (fun k_ => P0_ k_))
 have HW0 := Aside0.mk hB.size
 have HB := Aside0.mk hB
 clear hB
 have H : (laws_markUndoS.l0 k l0 a1 0) = some (r1, r2) := h
 clear h
 have H' := Aside0.mk H
 clear H
 go_enter Try.func131, Try.ntmps131
 go_wp2
 go_loopg [1, 5] k (fun kq v1 v5 w' => ∃ (x0_1 : List (S96)) (x1_1 : Int) (x5_1 : Int), v1 = .int .i64 x1_1 ∧ v5 = .int .i64 x5_1 ∧ Aside0 (laws_markUndoS.l0 kq x0_1 x1_1 x5_1 = some (r1, r2)) ∧ Aside0 (kq ≤ k) ∧ Aside0 (Kd.R k96 96 w' w0.heap.size (fun k_ => (P0_ k_ ∨ w.heap.size ≤ k_)) u9000_ x0_1) ∧ Aside0 (Kept w w' (fun k_ => P0_ k_)) ∧ Aside0 (Below w0.heap.size w0 w'))
 case atStart => exact ⟨(l0), (a1), (0), zs, zs, H', ⟨Nat.le_refl _⟩, ⟨by (with_reducible repeat (first | apply Kd.R_alloc | apply Kd.R_drewN | apply Kd.R_drew)); exact HO0.out⟩, ⟨by repeat (first | (with_reducible first | exact HK.out | apply Kept.alloc | apply Kept.drewN | apply Kept.drew) | exact HK.out)⟩, ⟨zb⟩⟩
 case round =>
  clear H'
  try clear c1
  try clear p2
  obtain ⟨x0_1, x1_1, x5_1, rfl, rfl, HA, HK1, HO_0, HK, HB⟩ := hrel
  cases gk with
  | zero => exact absurd HA.out (by simp [laws_markUndoS.l0])
  | succ k1 =>
   have H := HA.out
   clear HA
   simp only [laws_markUndoS.l0] at H
   by_cases c3 : x5_1 < (x0_1.length : Int)
   ·rw [if_pos c3] at H
    have c3b0 : decide (x5_1 < (x0_1.length : Int)) = true := decide_eq_true c3
    clear c3
    by_cases c4 : 0 ≤ x5_1
    ·rw [if_pos c4] at H
     have c4b0 : decide (0 ≤ x5_1) = true := decide_eq_true c4
     clear c4
     obtain ⟨y21, hy21⟩ : ∃ y_ : List (S96), y_ = (x0_1.set (x5_1 : Int).toNat (⟨x1_1, (rd_T96 x0_1 x5_1).f1, (rd_T96 x0_1 x5_1).f2, (rd_T96 x0_1 x5_1).f3⟩ : S96)) := ⟨_, rfl⟩
     replace H : ((some (y21.set (x5_1 : Int).toNat (⟨(rd_T96 y21 x5_1).f0, ((Int.tmod (wrap64 (x1_1 + 1)) 3) == 0), (rd_T96 y21 x5_1).f2, (rd_T96 y21 x5_1).f3⟩ : S96) : List (S96))).bind fun y20 => ((some (y20.set (x5_1 : Int).toNat (⟨(rd_T96 y20 x5_1).f0, (rd_T96 y20 x5_1).f1, ((Int.tmod (wrap64 ((wrap64 (x1_1 + 1)) + 1)) 3) == 0), (rd_T96 y20 x5_1).f3⟩ : S96) : List (S96))).bind fun y19 => (laws_markUndoS.l0 k1 (y19.set (x5_1 : Int).toNat (⟨(rd_T96 y19 x5_1).f0, (rd_T96 y19 x5_1).f1, (rd_T96 y19 x5_1).f2, wrap64 ((wrap64 ((wrap64 (x1_1 + 1)) + 1)) + 1)⟩ : S96)) (wrap64 ((wrap64 ((wrap64 ((wrap64 (x1_1 + 1)) + 1)) + 1)) + 1)) (wrap64 (x5_1 + 1))))) = some (r1, r2) := by first | (rw [hy21]; with_reducible exact H) | (have H2_ := (Option.bind_some _ _).symm.trans H; rw [hy21]; with_reducible exact H2_) | (have H2_ := (Option.bind_some _ _).symm.trans H; with_reducible exact H2_) | with_reducible exact H | (rw [hy21]; exact H) | exact H
     have Ny21 := Aside0.mk hy21
     clear hy21
     obtain ⟨y20, hy20⟩ : ∃ y_ : List (S96), y_ = (y21.set (x5_1 : Int).toNat (⟨(rd_T96 y21 x5_1).f0, ((Int.tmod (wrap64 (x1_1 + 1)) 3) == 0), (rd_T96 y21 x5_1).f2, (rd_T96 y21 x5_1).f3⟩ : S96)) := ⟨_, rfl⟩
     replace H : ((some (y20.set (x5_1 : Int).toNat (⟨(rd_T96 y20 x5_1).f0, (rd_T96 y20 x5_1).f1, ((Int.tmod (wrap64 ((wrap64 (x1_1 + 1)) + 1)) 3) == 0), (rd_T96 y20 x5_1).f3⟩ : S96) : List (S96))).bind fun y19 => (laws_markUndoS.l0 k1 (y19.set (x5_1 : Int).toNat (⟨(rd_T96 y19 x5_1).f0, (rd_T96 y19 x5_1).f1, (rd_T96 y19 x5_1).f2, wrap64 ((wrap64 ((wrap64 (x1_1 + 1)) + 1)) + 1)⟩ : S96)) (wrap64 ((wrap64 ((wrap64 ((wrap64 (x1_1 + 1)) + 1)) + 1)) + 1)) (wrap64 (x5_1 + 1)))) = some (r1, r2) := by first | (rw [hy20]; with_reducible exact H) | (have H2_ := (Option.bind_some _ _).symm.trans H; rw [hy20]; with_reducible exact H2_) | (have H2_ := (Option.bind_some _ _).symm.trans H; with_reducible exact H2_) | with_reducible exact H | (rw [hy20]; exact H) | exact H
     have Ny20 := Aside0.mk hy20
     clear hy20
     obtain ⟨y19, hy19⟩ : ∃ y_ : List (S96), y_ = (y20.set (x5_1 : Int).toNat (⟨(rd_T96 y20 x5_1).f0, (rd_T96 y20 x5_1).f1, ((Int.tmod (wrap64 ((wrap64 (x1_1 + 1)) + 1)) 3) == 0), (rd_T96 y20 x5_1).f3⟩ : S96)) := ⟨_, rfl⟩
     replace H : (laws_markUndoS.l0 k1 (y19.set (x5_1 : Int).toNat (⟨(rd_T96 y19 x5_1).f0, (rd_T96 y19 x5_1).f1, (rd_T96 y19 x5_1).f2, wrap64 ((wrap64 ((wrap64 (x1_1 + 1)) + 1)) + 1)⟩ : S96)) (wrap64 ((wrap64 ((wrap64 ((wrap64 (x1_1 + 1)) + 1)) + 1)) + 1)) (wrap64 (x5_1 + 1))) = some (r1, r2) := by first | (rw [hy19]; with_reducible exact H) | (have H2_ := (Option.bind_some _ _).symm.trans H; rw [hy19]; with_reducible exact H2_) | (have H2_ := (Option.bind_some _ _).symm.trans H; with_reducible exact H2_) | with_reducible exact H | (rw [hy19]; exact H) | exact H
     have Ny19 := Aside0.mk hy19
     clear hy19
     obtain ⟨y22, hy22⟩ : ∃ y_ : List (S96), y_ = (y19.set (x5_1 : Int).toNat (⟨(rd_T96 y19 x5_1).f0, (rd_T96 y19 x5_1).f1, (rd_T96 y19 x5_1).f2, wrap64 ((wrap64 ((wrap64 (x1_1 + 1)) + 1)) + 1)⟩ : S96)) := ⟨_, rfl⟩
     replace H : (laws_markUndoS.l0 k1 y22 (wrap64 ((wrap64 ((wrap64 ((wrap64 (x1_1 + 1)) + 1)) + 1)) + 1)) (wrap64 (x5_1 + 1))) = some (r1, r2) := by first | (rw [hy22]; with_reducible exact H) | (have H2_ := (Option.bind_some _ _).symm.trans H; rw [hy22]; with_reducible exact H2_) | (have H2_ := (Option.bind_some _ _).symm.trans H; with_reducible exact H2_) | with_reducible exact H | (rw [hy22]; exact H) | exact H
     have Ny22 := Aside0.mk hy22
     clear hy22
     have H' := Aside0.mk H
     clear H
     obtain ⟨Ao9, co9, eo9⟩ := Kd.R_slice HO_0.out
     subst eo9
     have p5 : 0 ≤ (x5_1 : Int) := of_decide_eq_true za
     have q5 : (x5_1 : Int) < ((x0_1.length : Int) : Int) := of_decide_eq_true za
     obtain ⟨go5, co5, eo5, gb5, gl5, cl5, HG5⟩ := Kd.R_form HO_0.out (by omega)
     (first | cases eo5 | (injection eo5 with ea_ en_ ec_; (first | subst ea_ | (injection ea_ with ea_; subst ea_)); subst ec_; clear en_))
     have GB5 := Aside0.mk gb5
     have GG5 := Aside0.mk HG5
     clear gb5 gl5 HG5
     have HMgo5 := Aside0.mk (show (P0_ go5 ∨ w.heap.size ≤ go5) from (HO_0.out.1 _ rfl))
     obtain ⟨ce5, hcl5, hM5, hcc5, hfr5⟩ := Kd.R_elem HO_0.out z96 (x5_1 : Int) p5 q5
     obtain rfl := k96_openM hM5
     have hx5_0 : wr.cell? ⟨go5, (x5_1 : Int).toNat * 4, none⟩ = some (.int .i64 ((rd_T96 x0_1 x5_1).f0)) := hcc5 0 _ rfl
     have hx5_1 : wr.cell? ⟨go5, (x5_1 : Int).toNat * 4 + 1, none⟩ = some (.bool ((rd_T96 x0_1 x5_1).f1)) := hcc5 1 _ rfl
     have hx5_2 : wr.cell? ⟨go5, (x5_1 : Int).toNat * 4 + 2, none⟩ = some (.bool ((rd_T96 x0_1 x5_1).f2)) := hcc5 2 _ rfl
     have hx5_3 : wr.cell? ⟨go5, (x5_1 : Int).toNat * 4 + 3, none⟩ = some (.int .i64 ((rd_T96 x0_1 x5_1).f3)) := hcc5 3 _ rfl
     have hf5_0 : wr.frozen? ⟨go5, (x5_1 : Int).toNat * 4, none⟩ = false := hfr5 0
     have hf5_1 : wr.frozen? ⟨go5, (x5_1 : Int).toNat * 4 + 1, none⟩ = false := hfr5 1
     have hf5_2 : wr.frozen? ⟨go5, (x5_1 : Int).toNat * 4 + 2, none⟩ = false := hfr5 2
     have hf5_3 : wr.frozen? ⟨go5, (x5_1 : Int).toNat * 4 + 3, none⟩ = false := hfr5 3
     clear hcl5 hcc5 hfr5; (try clear hM5)
     replace p5 := eq_true p5
     replace q5 := eq_true q5
     have HX10 := Aside0.mk (show Kd.R k96 96 wr w0.heap.size (fun k_ => (P0_ k_ ∨ w.heap.size ≤ k_)) (.slice (some ⟨go5, 0, none⟩) x0_1.length co9) x0_1 from (by (with_reducible repeat (first | apply Kd.R_alloc | apply Kd.R_drewN | apply Kd.R_drew)); exact HO_0.out))
     obtain ⟨ce10, hcl10, hM10, hcc10, hfr10⟩ := Kd.R_elem HX10.out z96 (x5_1 : Int) (of_decide_eq_true za) (by have h_ : (x5_1 : Int) < ((x0_1.length : Int) : Int) := of_decide_eq_true za; first | exact h_ | (have e_ := (Kd.R_reads' HO_0.out).1; omega) | simpa using h_)
     obtain rfl := k96_openM hM10
     have HP10 := Kd.R_seg HX10.out (x5_1 : Int) (of_decide_eq_true za) (by have h_ : (x5_1 : Int) < ((x0_1.length : Int) : Int) := of_decide_eq_true za; first | exact h_ | (have e_ := (Kd.R_reads' HO_0.out).1; omega) | simpa using h_) (seg := [.int .i64 x1_1]) (j := 0) hcl10 hcc10 (show 1 ≤ 4 from by decide) (x' := (⟨x1_1, (rd_T96 x0_1 x5_1).f1, (rd_T96 x0_1 x5_1).f2, (rd_T96 x0_1 x5_1).f3⟩ : S96)) (k96_mkM _ _ _ (⟨x1_1, (rd_T96 x0_1 x5_1).f1, (rd_T96 x0_1 x5_1).f2, (rd_T96 x0_1 x5_1).f3⟩ : S96) ) (fun _ hk => hk)
     have hx10_0 := hcc10 0 _ rfl
     (try simp only [show (k96).sz = 4 from rfl, Nat.mul_one, Nat.add_zero] at hx10_0)
     have hf10_0 := hfr10 0
     (try simp only [show (k96).sz = 4 from rfl, Nat.mul_one, Nat.add_zero] at hf10_0)
     clear hcl10 hcc10 hfr10; (try clear hM10)
     go_wp2_with (first | ((with_reducible refine gate_store (t := 2) (p := 16) rfl ?_); refine store_event (t := 2) (p := 16) (v := ?vo_w11) (w1 := (wr.setCell ⟨go5, (x5_1 : Int).toNat * 4, none⟩ (.int .i64 x1_1))) ?hg ?ho ?hn ?hr ?_; (case ho => rfl); (case hg => rfl); (case hn => rfl); (case hr => first | (go_simp; done) | (go_simp; rfl)); intro w11 hw; have hg : wr.grownBy w11 (some go5) := (by rw [hw]; exact HP10.2); have hp_ : Kd.R k96 96 w11 w0.heap.size (fun k_ => (P0_ k_ ∨ w.heap.size ≤ k_)) (.slice (some ⟨go5, 0, none⟩) x0_1.length co9) y21 := (by rw [hw, Ny21.out]; exact HP10.1); clear HP10; have n0_ := Aside0.mk (hp_); have n1_ := Aside0.mk ((by rw [hw]; exact below_set (HB.out) GB5.out : Below w0.heap.size w0 w11)); have n2_ := Aside0.mk (Kept.of_grown (S := (fun k_ => P0_ k_)) hg (by repeat (first | (with_reducible first | exact HK.out | apply Kept.alloc | apply Kept.drewN | apply Kept.drew) | exact HK.out)) (fun k_ e_ => (HO_0.out.1 k_ e_))); clear HO_0; clear HB; clear HK; have HO_0 := n0_; have HB := n1_; have HK := n2_; clear n0_ n1_ n2_; clear hg hw hp_; have p6 : 0 ≤ (x5_1 : Int) := of_decide_eq_true za; have q6 : (x5_1 : Int) < ((x0_1.length : Int) : Int) := of_decide_eq_true za; obtain ⟨ce6, hcl6, hM6, hcc6, hfr6⟩ := Kd.R_elem HO_0.out z96 (x5_1 : Int) p6 q6; obtain rfl := k96_openM hM6; have hx6_0 : w11.cell? ⟨go5, (x5_1 : Int).toNat * 4, none⟩ = some (.int .i64 ((rd_T96 y21 x5_1).f0)) := hcc6 0 _ rfl; have hx6_1 : w11.cell? ⟨go5, (x5_1 : Int).toNat * 4 + 1, none⟩ = some (.bool ((rd_T96 y21 x5_1).f1)) := hcc6 1 _ rfl; have hx6_2 : w11.cell? ⟨go5, (x5_1 : Int).toNat * 4 + 2, none⟩ = some (.bool ((rd_T96 y21 x5_1).f2)) := hcc6 2 _ rfl; have hx6_3 : w11.cell? ⟨go5, (x5_1 : Int).toNat * 4 + 3, none⟩ = some (.int .i64 ((rd_T96 y21 x5_1).f3)) := hcc6 3 _ rfl; have hf6_0 : w11.frozen? ⟨go5, (x5_1 : Int).toNat * 4, none⟩ = false := hfr6 0; have hf6_1 : w11.frozen? ⟨go5, (x5_1 : Int).toNat * 4 + 1, none⟩ = false := hfr6 1; have hf6_2 : w11.frozen? ⟨go5, (x5_1 : Int).toNat * 4 + 2, none⟩ = false := hfr6 2; have hf6_3 : w11.frozen? ⟨go5, (x5_1 : Int).toNat * 4 + 3, none⟩ = false := hfr6 3; clear hcl6 hcc6 hfr6; (try clear hM6); replace p6 := eq_true p6; replace q6 := eq_true q6; have HX12 := Aside0.mk (show Kd.R k96 96 w11 w0.heap.size (fun k_ => (P0_ k_ ∨ w.heap.size ≤ k_)) (.slice (some ⟨go5, 0, none⟩) x0_1.length co9) y21 from (by (with_reducible repeat (first | apply Kd.R_alloc | apply Kd.R_drewN | apply Kd.R_drew)); exact HO_0.out)); obtain ⟨ce12, hcl12, hM12, hcc12, hfr12⟩ := Kd.R_elem HX12.out z96 (x5_1 : Int) (of_decide_eq_true za) (by have h_ : (x5_1 : Int) < ((x0_1.length : Int) : Int) := of_decide_eq_true za; first | exact h_ | (have e_ := (Kd.R_reads' HO_0.out).1; omega) | simpa using h_); obtain rfl := k96_openM hM12; have HP12 := Kd.R_seg HX12.out (x5_1 : Int) (of_decide_eq_true za) (by have h_ : (x5_1 : Int) < ((x0_1.length : Int) : Int) := of_decide_eq_true za; first | exact h_ | (have e_ := (Kd.R_reads' HO_0.out).1; omega) | simpa using h_) (seg := [.bool ((Int.tmod (wrap64 (x1_1 + 1)) 3) == 0)]) (j := 1) hcl12 hcc12 (show 2 ≤ 4 from by decide) (x' := (⟨(rd_T96 y21 x5_1).f0, ((Int.tmod (wrap64 (x1_1 + 1)) 3) == 0), (rd_T96 y21 x5_1).f2, (rd_T96 y21 x5_1).f3⟩ : S96)) (k96_mkM _ _ _ (⟨(rd_T96 y21 x5_1).f0, ((Int.tmod (wrap64 (x1_1 + 1)) 3) == 0), (rd_T96 y21 x5_1).f2, (rd_T96 y21 x5_1).f3⟩ : S96) ) (fun _ hk => hk); have hx12_1 := hcc12 1 _ rfl; (try simp only [show (k96).sz = 4 from rfl, Nat.mul_one, Nat.add_zero] at hx12_1); have hf12_1 := hfr12 1; (try simp only [show (k96).sz = 4 from rfl, Nat.mul_one, Nat.add_zero] at hf12_1); clear hcl12 hcc12 hfr12; (try clear hM12)) | ((with_reducible refine gate_store (t := 4) (p := 25) rfl ?_); refine store_event (t := 4) (p := 25) (v := ?vo_w13) (w1 := (w11.setCell ⟨go5, (x5_1 : Int).toNat * 4 + 1, none⟩ (.bool ((Int.tmod (wrap64 (x1_1 + 1)) 3) == 0)))) ?hg ?ho ?hn ?hr ?_; (case ho => rfl); (case hg => rfl); (case hn => rfl); (case hr => first | (go_simp; done) | (go_simp; rfl)); intro w13 hw; have hg : w11.grownBy w13 (some go5) := (by rw [hw]; exact HP12.2); have hp_ : Kd.R k96 96 w13 w0.heap.size (fun k_ => (P0_ k_ ∨ w.heap.size ≤ k_)) (.slice (some ⟨go5, 0, none⟩) x0_1.length co9) y20 := (by rw [hw, Ny20.out]; exact HP12.1); clear HP12; have n0_ := Aside0.mk (hp_); have n1_ := Aside0.mk ((by rw [hw]; exact below_set (HB.out) GB5.out : Below w0.heap.size w0 w13)); have n2_ := Aside0.mk (Kept.of_grown (S := (fun k_ => P0_ k_)) hg (by repeat (first | (with_reducible first | exact HK.out | apply Kept.alloc | apply Kept.drewN | apply Kept.drew) | exact HK.out)) (fun k_ e_ => (HO_0.out.1 k_ e_))); clear HO_0; clear HB; clear HK; have HO_0 := n0_; have HB := n1_; have HK := n2_; clear n0_ n1_ n2_; clear hg hw hp_; have p7 : 0 ≤ (x5_1 : Int) := of_decide_eq_true za; have q7 : (x5_1 : Int) < ((x0_1.length : Int) : Int) := of_decide_eq_true za; obtain ⟨ce7, hcl7, hM7, hcc7, hfr7⟩ := Kd.R_elem HO_0.out z96 (x5_1 : Int) p7 q7; obtain rfl := k96_openM hM7; have hx7_0 : w13.cell? ⟨go5, (x5_1 : Int).toNat * 4, none⟩ = some (.int .i64 ((rd_T96 y20 x5_1).f0)) := hcc7 0 _ rfl; have hx7_1 : w13.cell? ⟨go5, (x5_1 : Int).toNat * 4 + 1, none⟩ = some (.bool ((rd_T96 y20 x5_1).f1)) := hcc7 1 _ rfl; have hx7_2 : w13.cell? ⟨go5, (x5_1 : Int).toNat * 4 + 2, none⟩ = some (.bool ((rd_T96 y20 x5_1).f2)) := hcc7 2 _ rfl; have hx7_3 : w13.cell? ⟨go5, (x5_1 : Int).toNat * 4 + 3, none⟩ = some (.int .i64 ((rd_T96 y20 x5_1).f3)) := hcc7 3 _ rfl; have hf7_0 : w13.frozen? ⟨go5, (x5_1 : Int).toNat * 4, none⟩ = false := hfr7 0; have hf7_1 : w13.frozen? ⟨go5, (x5_1 : Int).toNat * 4 + 1, none⟩ = false := hfr7 1; have hf7_2 : w13.frozen? ⟨go5, (x5_1 : Int).toNat * 4 + 2, none⟩ = false := hfr7 2; have hf7_3 : w13.frozen? ⟨go5, (x5_1 : Int).toNat * 4 + 3, none⟩ = false := hfr7 3; clear hcl7 hcc7 hfr7; (try clear hM7); replace p7 := eq_true p7; replace q7 := eq_true q7; have HX14 := Aside0.mk (show Kd.R k96 96 w13 w0.heap.size (fun k_ => (P0_ k_ ∨ w.heap.size ≤ k_)) (.slice (some ⟨go5, 0, none⟩) x0_1.length co9) y20 from (by (with_reducible repeat (first | apply Kd.R_alloc | apply Kd.R_drewN | apply Kd.R_drew)); exact HO_0.out)); obtain ⟨ce14, hcl14, hM14, hcc14, hfr14⟩ := Kd.R_elem HX14.out z96 (x5_1 : Int) (of_decide_eq_true za) (by have h_ : (x5_1 : Int) < ((x0_1.length : Int) : Int) := of_decide_eq_true za; first | exact h_ | (have e_ := (Kd.R_reads' HO_0.out).1; omega) | simpa using h_); obtain rfl := k96_openM hM14; have HP14 := Kd.R_seg HX14.out (x5_1 : Int) (of_decide_eq_true za) (by have h_ : (x5_1 : Int) < ((x0_1.length : Int) : Int) := of_decide_eq_true za; first | exact h_ | (have e_ := (Kd.R_reads' HO_0.out).1; omega) | simpa using h_) (seg := [.bool ((Int.tmod (wrap64 ((wrap64 (x1_1 + 1)) + 1)) 3) == 0)]) (j := 2) hcl14 hcc14 (show 3 ≤ 4 from by decide) (x' := (⟨(rd_T96 y20 x5_1).f0, (rd_T96 y20 x5_1).f1, ((Int.tmod (wrap64 ((wrap64 (x1_1 + 1)) + 1)) 3) == 0), (rd_T96 y20 x5_1).f3⟩ : S96)) (k96_mkM _ _ _ (⟨(rd_T96 y20 x5_1).f0, (rd_T96 y20 x5_1).f1, ((Int.tmod (wrap64 ((wrap64 (x1_1 + 1)) + 1)) 3) == 0), (rd_T96 y20 x5_1).f3⟩ : S96) ) (fun _ hk => hk); have hx14_2 := hcc14 2 _ rfl; (try simp only [show (k96).sz = 4 from rfl, Nat.mul_one, Nat.add_zero] at hx14_2); have hf14_2 := hfr14 2; (try simp only [show (k96).sz = 4 from rfl, Nat.mul_one, Nat.add_zero] at hf14_2); clear hcl14 hcc14 hfr14; (try clear hM14)) | ((with_reducible refine gate_store (t := 4) (p := 34) rfl ?_); refine store_event (t := 4) (p := 34) (v := ?vo_w15) (w1 := (w13.setCell ⟨go5, (x5_1 : Int).toNat * 4 + 2, none⟩ (.bool ((Int.tmod (wrap64 ((wrap64 (x1_1 + 1)) + 1)) 3) == 0)))) ?hg ?ho ?hn ?hr ?_; (case ho => rfl); (case hg => rfl); (case hn => rfl); (case hr => first | (go_simp; done) | (go_simp; rfl)); intro w15 hw; have hg : w13.grownBy w15 (some go5) := (by rw [hw]; exact HP14.2); have hp_ : Kd.R k96 96 w15 w0.heap.size (fun k_ => (P0_ k_ ∨ w.heap.size ≤ k_)) (.slice (some ⟨go5, 0, none⟩) x0_1.length co9) y19 := (by rw [hw, Ny19.out]; exact HP14.1); clear HP14; have n0_ := Aside0.mk (hp_); have n1_ := Aside0.mk ((by rw [hw]; exact below_set (HB.out) GB5.out : Below w0.heap.size w0 w15)); have n2_ := Aside0.mk (Kept.of_grown (S := (fun k_ => P0_ k_)) hg (by repeat (first | (with_reducible first | exact HK.out | apply Kept.alloc | apply Kept.drewN | apply Kept.drew) | exact HK.out)) (fun k_ e_ => (HO_0.out.1 k_ e_))); clear HO_0; clear HB; clear HK; have HO_0 := n0_; have HB := n1_; have HK := n2_; clear n0_ n1_ n2_; clear hg hw hp_; have p8 : 0 ≤ (x5_1 : Int) := of_decide_eq_true za; have q8 : (x5_1 : Int) < ((x0_1.length : Int) : Int) := of_decide_eq_true za; obtain ⟨ce8, hcl8, hM8, hcc8, hfr8⟩ := Kd.R_elem HO_0.out z96 (x5_1 : Int) p8 q8; obtain rfl := k96_openM hM8; have hx8_0 : w15.cell? ⟨go5, (x5_1 : Int).toNat * 4, none⟩ = some (.int .i64 ((rd_T96 y19 x5_1).f0)) := hcc8 0 _ rfl; have hx8_1 : w15.cell? ⟨go5, (x5_1 : Int).toNat * 4 + 1, none⟩ = some (.bool ((rd_T96 y19 x5_1).f1)) := hcc8 1 _ rfl; have hx8_2 : w15.cell? ⟨go5, (x5_1 : Int).toNat * 4 + 2, none⟩ = some (.bool ((rd_T96 y19 x5_1).f2)) := hcc8 2 _ rfl; have hx8_3 : w15.cell? ⟨go5, (x5_1 : Int).toNat * 4 + 3, none⟩ = some (.int .i64 ((rd_T96 y19 x5_1).f3)) := hcc8 3 _ rfl; have hf8_0 : w15.frozen? ⟨go5, (x5_1 : Int).toNat * 4, none⟩ = false := hfr8 0; have hf8_1 : w15.frozen? ⟨go5, (x5_1 : Int).toNat * 4 + 1, none⟩ = false := hfr8 1; have hf8_2 : w15.frozen? ⟨go5, (x5_1 : Int).toNat * 4 + 2, none⟩ = false := hfr8 2; have hf8_3 : w15.frozen? ⟨go5, (x5_1 : Int).toNat * 4 + 3, none⟩ = false := hfr8 3; clear hcl8 hcc8 hfr8; (try clear hM8); replace p8 := eq_true p8; replace q8 := eq_true q8; have HX16 := Aside0.mk (show Kd.R k96 96 w15 w0.heap.size (fun k_ => (P0_ k_ ∨ w.heap.size ≤ k_)) (.slice (some ⟨go5, 0, none⟩) x0_1.length co9) y19 from (by (with_reducible repeat (first | apply Kd.R_alloc | apply Kd.R_drewN | apply Kd.R_drew)); exact HO_0.out)); obtain ⟨ce16, hcl16, hM16, hcc16, hfr16⟩ := Kd.R_elem HX16.out z96 (x5_1 : Int) (of_decide_eq_true za) (by have h_ : (x5_1 : Int) < ((x0_1.length : Int) : Int) := of_decide_eq_true za; first | exact h_ | (have e_ := (Kd.R_reads' HO_0.out).1; omega) | simpa using h_); obtain rfl := k96_openM hM16; have HP16 := Kd.R_seg HX16.out (x5_1 : Int) (of_decide_eq_true za) (by have h_ : (x5_1 : Int) < ((x0_1.length : Int) : Int) := of_decide_eq_true za; first | exact h_ | (have e_ := (Kd.R_reads' HO_0.out).1; omega) | simpa using h_) (seg := [.int .i64 (wrap64 ((wrap64 ((wrap64 (x1_1 + 1)) + 1)) + 1))]) (j := 3) hcl16 hcc16 (show 4 ≤ 4 from by decide) (x' := (⟨(rd_T96 y19 x5_1).f0, (rd_T96 y19 x5_1).f1, (rd_T96 y19 x5_1).f2, wrap64 ((wrap64 ((wrap64 (x1_1 + 1)) + 1)) + 1)⟩ : S96)) (k96_mkM _ _ _ (⟨(rd_T96 y19 x5_1).f0, (rd_T96 y19 x5_1).f1, (rd_T96 y19 x5_1).f2, wrap64 ((wrap64 ((wrap64 (x1_1 + 1)) + 1)) + 1)⟩ : S96) ) (fun _ hk => hk); have hx16_3 := hcc16 3 _ rfl; (try simp only [show (k96).sz = 4 from rfl, Nat.mul_one, Nat.add_zero] at hx16_3); have hf16_3 := hfr16 3; (try simp only [show (k96).sz = 4 from rfl, Nat.mul_one, Nat.add_zero] at hf16_3); clear hcl16 hcc16 hfr16; (try clear hM16)) | ((with_reducible refine gate_store (t := 2) (p := 41) rfl ?_); refine store_event (t := 2) (p := 41) (v := ?vo_w17) (w1 := (w15.setCell ⟨go5, (x5_1 : Int).toNat * 4 + 3, none⟩ (.int .i64 (wrap64 ((wrap64 ((wrap64 (x1_1 + 1)) + 1)) + 1))))) ?hg ?ho ?hn ?hr ?_; (case ho => rfl); (case hg => rfl); (case hn => rfl); (case hr => first | (go_simp; done) | (go_simp; rfl)); intro w17 hw; have hg : w15.grownBy w17 (some go5) := (by rw [hw]; exact HP16.2); have hp_ : Kd.R k96 96 w17 w0.heap.size (fun k_ => (P0_ k_ ∨ w.heap.size ≤ k_)) (.slice (some ⟨go5, 0, none⟩) x0_1.length co9) y22 := (by rw [hw, Ny22.out]; exact HP16.1); clear HP16; have n0_ := Aside0.mk (hp_); have n1_ := Aside0.mk ((by rw [hw]; exact below_set (HB.out) GB5.out : Below w0.heap.size w0 w17)); have n2_ := Aside0.mk (Kept.of_grown (S := (fun k_ => P0_ k_)) hg (by repeat (first | (with_reducible first | exact HK.out | apply Kept.alloc | apply Kept.drewN | apply Kept.drew) | exact HK.out)) (fun k_ e_ => (HO_0.out.1 k_ e_))); clear HO_0; clear HB; clear HK; have HO_0 := n0_; have HB := n1_; have HK := n2_; clear n0_ n1_ n2_; clear hg hw hp_))
     go_roundg k1
     case measure => have := HK1.out; omega
     case rel => exact ⟨(y22), (wrap64 ((wrap64 ((wrap64 ((wrap64 (x1_1 + 1)) + 1)) + 1)) + 1)), (wrap64 (x5_1 + 1)), zs, zs, H', ⟨by have := HK1.out; omega⟩, ⟨by (with_reducible repeat (first | apply Kd.R_alloc | apply Kd.R_drewN | apply Kd.R_drew)); exact HO_0.out⟩, ⟨by repeat (first | (with_reducible first | exact HK.out | apply Kept.alloc | apply Kept.drewN | apply Kept.drew) | exact HK.out)⟩, ⟨zb⟩⟩
    rw [if_neg c4] at H
    exact absurd H (by simp)
   rw [if_neg c3] at H
   have c3b0 : decide (x5_1 < (x0_1.length : Int)) = false := decide_eq_false c3
   clear c3
   simp only [Option.some.injEq, Prod.mk.injEq] at H
   obtain ⟨rfl, rfl⟩ := H
   obtain ⟨Ao18, co18, eo18⟩ := Kd.R_slice HO_0.out
   subst eo18
   go_wp2
   go_ret
   exact ⟨ze, by (with_reducible repeat (first | apply Kd.R_alloc | apply Kd.R_drewN | apply Kd.R_drew)); exact HO_0.out, zb, by repeat (first | (with_reducible first | exact HK.out | apply Kept.alloc | apply Kept.drewN | apply Kept.drew) | exact HK.out)⟩
set_option maxHeartbeats 8000000 in
set_option maxRecDepth 100000 in
theorem laws_markVersionS.calls (k : Nat) (P0_ : Nat → Prop) (u9000_ : Value) (l0 : List (S90)) (a1 : Int) (r1 : Int) (r2 : List (S90)) (w0 w : World) (hB : Below w0.heap.size w0 w) (ho0 : Kd.R k90 90 w w0.heap.size P0_ u9000_ l0) (h : laws_markVersionS.f k l0 a1 = some (r1, r2)) :
 Calls Try.prog 91 #[u9000_, .int .i64 a1] w fun e w' => e = .returned (.int .i64 r1) ∧ Kd.R k90 90 w' w0.heap.size (fun k_ => (P0_ k_ ∨ w.heap.size ≤ k_)) u9000_ r2 ∧ Below w0.heap.size w0 w' ∧ Kept w w' (fun k_ => P0_ k_) := by
 have HO0 := Aside0.mk (show Kd.R k90 90 w w0.heap.size (fun k_ => (P0_ k_ ∨ w.heap.size ≤ k_)) u9000_ l0 from Kd.R_mono ho0 (fun k_ hk => (.inl hk)))
 have HK := Aside0.mk (Kept.refl w (fun k_ => P0_ k_))
 have HW0 := Aside0.mk hB.size
 have HB := Aside0.mk hB
 clear hB
 have H : (laws_markVersionS.l0 k l0 a1 0) = some (r1, r2) := h
 clear h
 have H' := Aside0.mk H
 clear H
 go_enter Try.func91, Try.ntmps91
 go_wp2
 go_loopg [1, 5] k (fun kq v1 v5 w' => ∃ (x0_1 : List (S90)) (x1_1 : Int) (x5_1 : Int), v1 = .int .i64 x1_1 ∧ v5 = .int .i64 x5_1 ∧ Aside0 (laws_markVersionS.l0 kq x0_1 x1_1 x5_1 = some (r1, r2)) ∧ Aside0 (kq ≤ k) ∧ Aside0 (Kd.R k90 90 w' w0.heap.size (fun k_ => (P0_ k_ ∨ w.heap.size ≤ k_)) u9000_ x0_1) ∧ Aside0 (Kept w w' (fun k_ => P0_ k_)) ∧ Aside0 (Below w0.heap.size w0 w'))
 case atStart => exact ⟨(l0), (a1), (0), zs, zs, H', ⟨Nat.le_refl _⟩, ⟨by (with_reducible repeat (first | apply Kd.R_alloc | apply Kd.R_drewN | apply Kd.R_drew)); exact HO0.out⟩, ⟨by repeat (first | (with_reducible first | exact HK.out | apply Kept.alloc | apply Kept.drewN | apply Kept.drew) | exact HK.out)⟩, ⟨zb⟩⟩
 case round =>
  clear H'
  try clear p2
  obtain ⟨x0_1, x1_1, x5_1, rfl, rfl, HA, HK1, HO_0, HK, HB⟩ := hrel
  cases gk with
  | zero => exact absurd HA.out (by simp [laws_markVersionS.l0])
  | succ k1 =>
   have H := HA.out
   clear HA
   simp only [laws_markVersionS.l0] at H
   by_cases c3 : x5_1 < (x0_1.length : Int)
   ·rw [if_pos c3] at H
    have c3b0 : decide (x5_1 < (x0_1.length : Int)) = true := decide_eq_true c3
    clear c3
    by_cases c4 : 0 ≤ x5_1
    ·rw [if_pos c4] at H
     have c4b0 : decide (0 ≤ x5_1) = true := decide_eq_true c4
     clear c4
     obtain ⟨y21, hy21⟩ : ∃ y_ : List (S90), y_ = (x0_1.set (x5_1 : Int).toNat (⟨x1_1, (rd_T90 x0_1 x5_1).f1, (rd_T90 x0_1 x5_1).f2, (rd_T90 x0_1 x5_1).f3⟩ : S90)) := ⟨_, rfl⟩
     replace H : ((some (y21.set (x5_1 : Int).toNat (⟨(rd_T90 y21 x5_1).f0, wrap64 (x1_1 + 1), (rd_T90 y21 x5_1).f2, (rd_T90 y21 x5_1).f3⟩ : S90) : List (S90))).bind fun y20 => ((some (y20.set (x5_1 : Int).toNat (⟨(rd_T90 y20 x5_1).f0, (rd_T90 y20 x5_1).f1, ((Int.tmod (wrap64 ((wrap64 (x1_1 + 1)) + 1)) 3) == 0), (rd_T90 y20 x5_1).f3⟩ : S90) : List (S90))).bind fun y19 => (laws_markVersionS.l0 k1 (y19.set (x5_1 : Int).toNat (⟨(rd_T90 y19 x5_1).f0, (rd_T90 y19 x5_1).f1, (rd_T90 y19 x5_1).f2, wrap64 ((wrap64 ((wrap64 (x1_1 + 1)) + 1)) + 1)⟩ : S90)) (wrap64 ((wrap64 ((wrap64 ((wrap64 (x1_1 + 1)) + 1)) + 1)) + 1)) (wrap64 (x5_1 + 1))))) = some (r1, r2) := by first | (rw [hy21]; with_reducible exact H) | (have H2_ := (Option.bind_some _ _).symm.trans H; rw [hy21]; with_reducible exact H2_) | (have H2_ := (Option.bind_some _ _).symm.trans H; with_reducible exact H2_) | with_reducible exact H | (rw [hy21]; exact H) | exact H
     have Ny21 := Aside0.mk hy21
     clear hy21
     obtain ⟨y20, hy20⟩ : ∃ y_ : List (S90), y_ = (y21.set (x5_1 : Int).toNat (⟨(rd_T90 y21 x5_1).f0, wrap64 (x1_1 + 1), (rd_T90 y21 x5_1).f2, (rd_T90 y21 x5_1).f3⟩ : S90)) := ⟨_, rfl⟩
     replace H : ((some (y20.set (x5_1 : Int).toNat (⟨(rd_T90 y20 x5_1).f0, (rd_T90 y20 x5_1).f1, ((Int.tmod (wrap64 ((wrap64 (x1_1 + 1)) + 1)) 3) == 0), (rd_T90 y20 x5_1).f3⟩ : S90) : List (S90))).bind fun y19 => (laws_markVersionS.l0 k1 (y19.set (x5_1 : Int).toNat (⟨(rd_T90 y19 x5_1).f0, (rd_T90 y19 x5_1).f1, (rd_T90 y19 x5_1).f2, wrap64 ((wrap64 ((wrap64 (x1_1 + 1)) + 1)) + 1)⟩ : S90)) (wrap64 ((wrap64 ((wrap64 ((wrap64 (x1_1 + 1)) + 1)) + 1)) + 1)) (wrap64 (x5_1 + 1)))) = some (r1, r2) := by first | (rw [hy20]; with_reducible exact H) | (have H2_ := (Option.bind_some _ _).symm.trans H; rw [hy20]; with_reducible exact H2_) | (have H2_ := (Option.bind_some _ _).symm.trans H; with_reducible exact H2_) | with_reducible exact H | (rw [hy20]; exact H) | exact H
     have Ny20 := Aside0.mk hy20
     clear hy20
     obtain ⟨y19, hy19⟩ : ∃ y_ : List (S90), y_ = (y20.set (x5_1 : Int).toNat (⟨(rd_T90 y20 x5_1).f0, (rd_T90 y20 x5_1).f1, ((Int.tmod (wrap64 ((wrap64 (x1_1 + 1)) + 1)) 3) == 0), (rd_T90 y20 x5_1).f3⟩ : S90)) := ⟨_, rfl⟩
     replace H : (laws_markVersionS.l0 k1 (y19.set (x5_1 : Int).toNat (⟨(rd_T90 y19 x5_1).f0, (rd_T90 y19 x5_1).f1, (rd_T90 y19 x5_1).f2, wrap64 ((wrap64 ((wrap64 (x1_1 + 1)) + 1)) + 1)⟩ : S90)) (wrap64 ((wrap64 ((wrap64 ((wrap64 (x1_1 + 1)) + 1)) + 1)) + 1)) (wrap64 (x5_1 + 1))) = some (r1, r2) := by first | (rw [hy19]; with_reducible exact H) | (have H2_ := (Option.bind_some _ _).symm.trans H; rw [hy19]; with_reducible exact H2_) | (have H2_ := (Option.bind_some _ _).symm.trans H; with_reducible exact H2_) | with_reducible exact H | (rw [hy19]; exact H) | exact H
     have Ny19 := Aside0.mk hy19
     clear hy19
     obtain ⟨y22, hy22⟩ : ∃ y_ : List (S90), y_ = (y19.set (x5_1 : Int).toNat (⟨(rd_T90 y19 x5_1).f0, (rd_T90 y19 x5_1).f1, (rd_T90 y19 x5_1).f2, wrap64 ((wrap64 ((wrap64 (x1_1 + 1)) + 1)) + 1)⟩ : S90)) := ⟨_, rfl⟩
     replace H : (laws_markVersionS.l0 k1 y22 (wrap64 ((wrap64 ((wrap64 ((wrap64 (x1_1 + 1)) + 1)) + 1)) + 1)) (wrap64 (x5_1 + 1))) = some (r1, r2) := by first | (rw [hy22]; with_reducible exact H) | (have H2_ := (Option.bind_some _ _).symm.trans H; rw [hy22]; with_reducible exact H2_) | (have H2_ := (Option.bind_some _ _).symm.trans H; with_reducible exact H2_) | with_reducible exact H | (rw [hy22]; exact H) | exact H
     have Ny22 := Aside0.mk hy22
     clear hy22
     have H' := Aside0.mk H
     clear H
     obtain ⟨Ao9, co9, eo9⟩ := Kd.R_slice HO_0.out
     subst eo9
     have p5 : 0 ≤ (x5_1 : Int) := of_decide_eq_true za
     have q5 : (x5_1 : Int) < ((x0_1.length : Int) : Int) := of_decide_eq_true za
     obtain ⟨go5, co5, eo5, gb5, gl5, cl5, HG5⟩ := Kd.R_form HO_0.out (by omega)
     (first | cases eo5 | (injection eo5 with ea_ en_ ec_; (first | subst ea_ | (injection ea_ with ea_; subst ea_)); subst ec_; clear en_))
     have GB5 := Aside0.mk gb5
     have GG5 := Aside0.mk HG5
     clear gb5 gl5 HG5
     have HMgo5 := Aside0.mk (show (P0_ go5 ∨ w.heap.size ≤ go5) from (HO_0.out.1 _ rfl))
     obtain ⟨ce5, hcl5, hM5, hcc5, hfr5⟩ := Kd.R_elem HO_0.out z90 (x5_1 : Int) p5 q5
     obtain rfl := k90_openM hM5
     have hx5_0 : wr.cell? ⟨go5, (x5_1 : Int).toNat * 4, none⟩ = some (.int .i64 ((rd_T90 x0_1 x5_1).f0)) := hcc5 0 _ rfl
     have hx5_1 : wr.cell? ⟨go5, (x5_1 : Int).toNat * 4 + 1, none⟩ = some (.int .i64 ((rd_T90 x0_1 x5_1).f1)) := hcc5 1 _ rfl
     have hx5_2 : wr.cell? ⟨go5, (x5_1 : Int).toNat * 4 + 2, none⟩ = some (.bool ((rd_T90 x0_1 x5_1).f2)) := hcc5 2 _ rfl
     have hx5_3 : wr.cell? ⟨go5, (x5_1 : Int).toNat * 4 + 3, none⟩ = some (.int .i64 ((rd_T90 x0_1 x5_1).f3)) := hcc5 3 _ rfl
     have hf5_0 : wr.frozen? ⟨go5, (x5_1 : Int).toNat * 4, none⟩ = false := hfr5 0
     have hf5_1 : wr.frozen? ⟨go5, (x5_1 : Int).toNat * 4 + 1, none⟩ = false := hfr5 1
     have hf5_2 : wr.frozen? ⟨go5, (x5_1 : Int).toNat * 4 + 2, none⟩ = false := hfr5 2
     have hf5_3 : wr.frozen? ⟨go5, (x5_1 : Int).toNat * 4 + 3, none⟩ = false := hfr5 3
     clear hcl5 hcc5 hfr5; (try clear hM5)
     replace p5 := eq_true p5
     replace q5 := eq_true q5
     have HX10 := Aside0.mk (show Kd.R k90 90 wr w0.heap.size (fun k_ => (P0_ k_ ∨ w.heap.size ≤ k_)) (.slice (some ⟨go5, 0, none⟩) x0_1.length co9) x0_1 from (by (with_reducible repeat (first | apply Kd.R_alloc | apply Kd.R_drewN | apply Kd.R_drew)); exact HO_0.out))
     obtain ⟨ce10, hcl10, hM10, hcc10, hfr10⟩ := Kd.R_elem HX10.out z90 (x5_1 : Int) (of_decide_eq_true za) (by have h_ : (x5_1 : Int) < ((x0_1.length : Int) : Int) := of_decide_eq_true za; first | exact h_ | (have e_ := (Kd.R_reads' HO_0.out).1; omega) | simpa using h_)
     obtain rfl := k90_openM hM10
     have HP10 := Kd.R_seg HX10.out (x5_1 : Int) (of_decide_eq_true za) (by have h_ : (x5_1 : Int) < ((x0_1.length : Int) : Int) := of_decide_eq_true za; first | exact h_ | (have e_ := (Kd.R_reads' HO_0.out).1; omega) | simpa using h_) (seg := [.int .i64 x1_1]) (j := 0) hcl10 hcc10 (show 1 ≤ 4 from by decide) (x' := (⟨x1_1, (rd_T90 x0_1 x5_1).f1, (rd_T90 x0_1 x5_1).f2, (rd_T90 x0_1 x5_1).f3⟩ : S90)) (k90_mkM _ _ _ (⟨x1_1, (rd_T90 x0_1 x5_1).f1, (rd_T90 x0_1 x5_1).f2, (rd_T90 x0_1 x5_1).f3⟩ : S90) ) (fun _ hk => hk)
     have hx10_0 := hcc10 0 _ rfl
     (try simp only [show (k90).sz = 4 from rfl, Nat.mul_one, Nat.add_zero] at hx10_0)
     have hf10_0 := hfr10 0
     (try simp only [show (k90).sz = 4 from rfl, Nat.mul_one, Nat.add_zero] at hf10_0)
     clear hcl10 hcc10 hfr10; (try clear hM10)
     go_wp2_with (first | ((with_reducible refine gate_store (t := 2) (p := 16) rfl ?_); refine store_event (t := 2) (p := 16) (v := ?vo_w11) (w1 := (wr.setCell ⟨go5, (x5_1 : Int).toNat * 4, none⟩ (.int .i64 x1_1))) ?hg ?ho ?hn ?hr ?_; (case ho => rfl); (case hg => rfl); (case hn => rfl); (case hr => first | (go_simp; done) | (go_simp; rfl)); intro w11 hw; have hg : wr.grownBy w11 (some go5) := (by rw [hw]; exact HP10.2); have hp_ : Kd.R k90 90 w11 w0.heap.size (fun k_ => (P0_ k_ ∨ w.heap.size ≤ k_)) (.slice (some ⟨go5, 0, none⟩) x0_1.length co9) y21 := (by rw [hw, Ny21.out]; exact HP10.1); clear HP10; have n0_ := Aside0.mk (hp_); have n1_ := Aside0.mk ((by rw [hw]; exact below_set (HB.out) GB5.out : Below w0.heap.size w0 w11)); have n2_ := Aside0.mk (Kept.of_grown (S := (fun k_ => P0_ k_)) hg (by repeat (first | (with_reducible first | exact HK.out | apply Kept.alloc | apply Kept.drewN | apply Kept.drew) | exact HK.out)) (fun k_ e_ => (HO_0.out.1 k_ e_))); clear HO_0; clear HB; clear HK; have HO_0 := n0_; have HB := n1_; have HK := n2_; clear n0_ n1_ n2_; clear hg hw hp_; have p6 : 0 ≤ (x5_1 : Int) := of_decide_eq_true za; have q6 : (x5_1 : Int) < ((x0_1.length : Int) : Int) := of_decide_eq_true za; obtain ⟨ce6, hcl6, hM6, hcc6, hfr6⟩ := Kd.R_elem HO_0.out z90 (x5_1 : Int) p6 q6; obtain rfl := k90_openM hM6; have hx6_0 : w11.cell? ⟨go5, (x5_1 : Int).toNat * 4, none⟩ = some (.int .i64 ((rd_T90 y21 x5_1).f0)) := hcc6 0 _ rfl; have hx6_1 : w11.cell? ⟨go5, (x5_1 : Int).toNat * 4 + 1, none⟩ = some (.int .i64 ((rd_T90 y21 x5_1).f1)) := hcc6 1 _ rfl; have hx6_2 : w11.cell? ⟨go5, (x5_1 : Int).toNat * 4 + 2, none⟩ = some (.bool ((rd_T90 y21 x5_1).f2)) := hcc6 2 _ rfl; have hx6_3 : w11.cell? ⟨go5, (x5_1 : Int).toNat * 4 + 3, none⟩ = some (.int .i64 ((rd_T90 y21 x5_1).f3)) := hcc6 3 _ rfl; have hf6_0 : w11.frozen? ⟨go5, (x5_1 : Int).toNat * 4, none⟩ = false := hfr6 0; have hf6_1 : w11.frozen? ⟨go5, (x5_1 : Int).toNat * 4 + 1, none⟩ = false := hfr6 1; have hf6_2 : w11.frozen? ⟨go5, (x5_1 : Int).toNat * 4 + 2, none⟩ = false := hfr6 2; have hf6_3 : w11.frozen? ⟨go5, (x5_1 : Int).toNat * 4 + 3, none⟩ = false := hfr6 3; clear hcl6 hcc6 hfr6; (try clear hM6); replace p6 := eq_true p6; replace q6 := eq_true q6; have HX12 := Aside0.mk (show Kd.R k90 90 w11 w0.heap.size (fun k_ => (P0_ k_ ∨ w.heap.size ≤ k_)) (.slice (some ⟨go5, 0, none⟩) x0_1.length co9) y21 from (by (with_reducible repeat (first | apply Kd.R_alloc | apply Kd.R_drewN | apply Kd.R_drew)); exact HO_0.out)); obtain ⟨ce12, hcl12, hM12, hcc12, hfr12⟩ := Kd.R_elem HX12.out z90 (x5_1 : Int) (of_decide_eq_true za) (by have h_ : (x5_1 : Int) < ((x0_1.length : Int) : Int) := of_decide_eq_true za; first | exact h_ | (have e_ := (Kd.R_reads' HO_0.out).1; omega) | simpa using h_); obtain rfl := k90_openM hM12; have HP12 := Kd.R_seg HX12.out (x5_1 : Int) (of_decide_eq_true za) (by have h_ : (x5_1 : Int) < ((x0_1.length : Int) : Int) := of_decide_eq_true za; first | exact h_ | (have e_ := (Kd.R_reads' HO_0.out).1; omega) | simpa using h_) (seg := [.int .i64 (wrap64 (x1_1 + 1))]) (j := 1) hcl12 hcc12 (show 2 ≤ 4 from by decide) (x' := (⟨(rd_T90 y21 x5_1).f0, wrap64 (x1_1 + 1), (rd_T90 y21 x5_1).f2, (rd_T90 y21 x5_1).f3⟩ : S90)) (k90_mkM _ _ _ (⟨(rd_T90 y21 x5_1).f0, wrap64 (x1_1 + 1), (rd_T90 y21 x5_1).f2, (rd_T90 y21 x5_1).f3⟩ : S90) ) (fun _ hk => hk); have hx12_1 := hcc12 1 _ rfl; (try simp only [show (k90).sz = 4 from rfl, Nat.mul_one, Nat.add_zero] at hx12_1); have hf12_1 := hfr12 1; (try simp only [show (k90).sz = 4 from rfl, Nat.mul_one, Nat.add_zero] at hf12_1); clear hcl12 hcc12 hfr12; (try clear hM12)) | ((with_reducible refine gate_store (t := 2) (p := 23) rfl ?_); refine store_event (t := 2) (p := 23) (v := ?vo_w13) (w1 := (w11.setCell ⟨go5, (x5_1 : Int).toNat * 4 + 1, none⟩ (.int .i64 (wrap64 (x1_1 + 1))))) ?hg ?ho ?hn ?hr ?_; (case ho => rfl); (case hg => rfl); (case hn => rfl); (case hr => first | (go_simp; done) | (go_simp; rfl)); intro w13 hw; have hg : w11.grownBy w13 (some go5) := (by rw [hw]; exact HP12.2); have hp_ : Kd.R k90 90 w13 w0.heap.size (fun k_ => (P0_ k_ ∨ w.heap.size ≤ k_)) (.slice (some ⟨go5, 0, none⟩) x0_1.length co9) y20 := (by rw [hw, Ny20.out]; exact HP12.1); clear HP12; have n0_ := Aside0.mk (hp_); have n1_ := Aside0.mk ((by rw [hw]; exact below_set (HB.out) GB5.out : Below w0.heap.size w0 w13)); have n2_ := Aside0.mk (Kept.of_grown (S := (fun k_ => P0_ k_)) hg (by repeat (first | (with_reducible first | exact HK.out | apply Kept.alloc | apply Kept.drewN | apply Kept.drew) | exact HK.out)) (fun k_ e_ => (HO_0.out.1 k_ e_))); clear HO_0; clear HB; clear HK; have HO_0 := n0_; have HB := n1_; have HK := n2_; clear n0_ n1_ n2_; clear hg hw hp_; have p7 : 0 ≤ (x5_1 : Int) := of_decide_eq_true za; have q7 : (x5_1 : Int) < ((x0_1.length : Int) : Int) := of_decide_eq_true za; obtain ⟨ce7, hcl7, hM7, hcc7, hfr7⟩ := Kd.R_elem HO_0.out z90 (x5_1 : Int) p7 q7; obtain rfl := k90_openM hM7; have hx7_0 : w13.cell? ⟨go5, (x5_1 : Int).toNat * 4, none⟩ = some (.int .i64 ((rd_T90 y20 x5_1).f0)) := hcc7 0 _ rfl; have hx7_1 : w13.cell? ⟨go5, (x5_1 : Int).toNat * 4 + 1, none⟩ = some (.int .i64 ((rd_T90 y20 x5_1).f1)) := hcc7 1 _ rfl; have hx7_2 : w13.cell? ⟨go5, (x5_1 : Int).toNat * 4 + 2, none⟩ = some (.bool ((rd_T90 y20 x5_1).f2)) := hcc7 2 _ rfl; have hx7_3 : w13.cell? ⟨go5, (x5_1 : Int).toNat * 4 + 3, none⟩ = some (.int .i64 ((rd_T90 y20 x5_1).f3)) := hcc7 3 _ rfl; have hf7_0 : w13.frozen? ⟨go5, (x5_1 : Int).toNat * 4, none⟩ = false := hfr7 0; have hf7_1 : w13.frozen? ⟨go5, (x5_1 : Int).toNat * 4 + 1, none⟩ = false := hfr7 1; have hf7_2 : w13.frozen? ⟨go5, (x5_1 : Int).toNat * 4 + 2, none⟩ = false := hfr7 2; have hf7_3 : w13.frozen? ⟨go5, (x5_1 : Int).toNat * 4 + 3, none⟩ = false := hfr7 3; clear hcl7 hcc7 hfr7; (try clear hM7); replace p7 := eq_true p7; replace q7 := eq_true q7; have HX14 := Aside0.mk (show Kd.R k90 90 w13 w0.heap.size (fun k_ => (P0_ k_ ∨ w.heap.size ≤ k_)) (.slice (some ⟨go5, 0, none⟩) x0_1.length co9) y20 from (by (with_reducible repeat (first | apply Kd.R_alloc | apply Kd.R_drewN | apply Kd.R_drew)); exact HO_0.out)); obtain ⟨ce14, hcl14, hM14, hcc14, hfr14⟩ := Kd.R_elem HX14.out z90 (x5_1 : Int) (of_decide_eq_true za) (by have h_ : (x5_1 : Int) < ((x0_1.length : Int) : Int) := of_decide_eq_true za; first | exact h_ | (have e_ := (Kd.R_reads' HO_0.out).1; omega) | simpa using h_); obtain rfl := k90_openM hM14; have HP14 := Kd.R_seg HX14.out (x5_1 : Int) (of_decide_eq_true za) (by have h_ : (x5_1 : Int) < ((x0_1.length : Int) : Int) := of_decide_eq_true za; first | exact h_ | (have e_ := (Kd.R_reads' HO_0.out).1; omega) | simpa using h_) (seg := [.bool ((Int.tmod (wrap64 ((wrap64 (x1_1 + 1)) + 1)) 3) == 0)]) (j := 2) hcl14 hcc14 (show 3 ≤ 4 from by decide) (x' := (⟨(rd_T90 y20 x5_1).f0, (rd_T90 y20 x5_1).f1, ((Int.tmod (wrap64 ((wrap64 (x1_1 + 1)) + 1)) 3) == 0), (rd_T90 y20 x5_1).f3⟩ : S90)) (k90_mkM _ _ _ (⟨(rd_T90 y20 x5_1).f0, (rd_T90 y20 x5_1).f1, ((Int.tmod (wrap64 ((wrap64 (x1_1 + 1)) + 1)) 3) == 0), (rd_T90 y20 x5_1).f3⟩ : S90) ) (fun _ hk => hk); have hx14_2 := hcc14 2 _ rfl; (try simp only [show (k90).sz = 4 from rfl, Nat.mul_one, Nat.add_zero] at hx14_2); have hf14_2 := hfr14 2; (try simp only [show (k90).sz = 4 from rfl, Nat.mul_one, Nat.add_zero] at hf14_2); clear hcl14 hcc14 hfr14; (try clear hM14)) | ((with_reducible refine gate_store (t := 4) (p := 32) rfl ?_); refine store_event (t := 4) (p := 32) (v := ?vo_w15) (w1 := (w13.setCell ⟨go5, (x5_1 : Int).toNat * 4 + 2, none⟩ (.bool ((Int.tmod (wrap64 ((wrap64 (x1_1 + 1)) + 1)) 3) == 0)))) ?hg ?ho ?hn ?hr ?_; (case ho => rfl); (case hg => rfl); (case hn => rfl); (case hr => first | (go_simp; done) | (go_simp; rfl)); intro w15 hw; have hg : w13.grownBy w15 (some go5) := (by rw [hw]; exact HP14.2); have hp_ : Kd.R k90 90 w15 w0.heap.size (fun k_ => (P0_ k_ ∨ w.heap.size ≤ k_)) (.slice (some ⟨go5, 0, none⟩) x0_1.length co9) y19 := (by rw [hw, Ny19.out]; exact HP14.1); clear HP14; have n0_ := Aside0.mk (hp_); have n1_ := Aside0.mk ((by rw [hw]; exact below_set (HB.out) GB5.out : Below w0.heap.size w0 w15)); have n2_ := Aside0.mk (Kept.of_grown (S := (fun k_ => P0_ k_)) hg (by repeat (first | (with_reducible first | exact HK.out | apply Kept.alloc | apply Kept.drewN | apply Kept.drew) | exact HK.out)) (fun k_ e_ => (HO_0.out.1 k_ e_))); clear HO_0; clear HB; clear HK; have HO_0 := n0_; have HB := n1_; have HK := n2_; clear n0_ n1_ n2_; clear hg hw hp_; have p8 : 0 ≤ (x5_1 : Int) := of_decide_eq_true za; have q8 : (x5_1 : Int) < ((x0_1.length : Int) : Int) := of_decide_eq_true za; obtain ⟨ce8, hcl8, hM8, hcc8, hfr8⟩ := Kd.R_elem HO_0.out z90 (x5_1 : Int) p8 q8; obtain rfl := k90_openM hM8; have hx8_0 : w15.cell? ⟨go5, (x5_1 : Int).toNat * 4, none⟩ = some (.int .i64 ((rd_T90 y19 x5_1).f0)) := hcc8 0 _ rfl; have hx8_1 : w15.cell? ⟨go5, (x5_1 : Int).toNat * 4 + 1, none⟩ = some (.int .i64 ((rd_T90 y19 x5_1).f1)) := hcc8 1 _ rfl; have hx8_2 : w15.cell? ⟨go5, (x5_1 : Int).toNat * 4 + 2, none⟩ = some (.bool ((rd_T90 y19 x5_1).f2)) := hcc8 2 _ rfl; have hx8_3 : w15.cell? ⟨go5, (x5_1 : Int).toNat * 4 + 3, none⟩ = some (.int .i64 ((rd_T90 y19 x5_1).f3)) := hcc8 3 _ rfl; have hf8_0 : w15.frozen? ⟨go5, (x5_1 : Int).toNat * 4, none⟩ = false := hfr8 0; have hf8_1 : w15.frozen? ⟨go5, (x5_1 : Int).toNat * 4 + 1, none⟩ = false := hfr8 1; have hf8_2 : w15.frozen? ⟨go5, (x5_1 : Int).toNat * 4 + 2, none⟩ = false := hfr8 2; have hf8_3 : w15.frozen? ⟨go5, (x5_1 : Int).toNat * 4 + 3, none⟩ = false := hfr8 3; clear hcl8 hcc8 hfr8; (try clear hM8); replace p8 := eq_true p8; replace q8 := eq_true q8; have HX16 := Aside0.mk (show Kd.R k90 90 w15 w0.heap.size (fun k_ => (P0_ k_ ∨ w.heap.size ≤ k_)) (.slice (some ⟨go5, 0, none⟩) x0_1.length co9) y19 from (by (with_reducible repeat (first | apply Kd.R_alloc | apply Kd.R_drewN | apply Kd.R_drew)); exact HO_0.out)); obtain ⟨ce16, hcl16, hM16, hcc16, hfr16⟩ := Kd.R_elem HX16.out z90 (x5_1 : Int) (of_decide_eq_true za) (by have h_ : (x5_1 : Int) < ((x0_1.length : Int) : Int) := of_decide_eq_true za; first | exact h_ | (have e_ := (Kd.R_reads' HO_0.out).1; omega) | simpa using h_); obtain rfl := k90_openM hM16; have HP16 := Kd.R_seg HX16.out (x5_1 : Int) (of_decide_eq_true za) (by have h_ : (x5_1 : Int) < ((x0_1.length : Int) : Int) := of_decide_eq_true za; first | exact h_ | (have e_ := (Kd.R_reads' HO_0.out).1; omega) | simpa using h_) (seg := [.int .i64 (wrap64 ((wrap64 ((wrap64 (x1_1 + 1)) + 1)) + 1))]) (j := 3) hcl16 hcc16 (show 4 ≤ 4 from by decide) (x' := (⟨(rd_T90 y19 x5_1).f0, (rd_T90 y19 x5_1).f1, (rd_T90 y19 x5_1).f2, wrap64 ((wrap64 ((wrap64 (x1_1 + 1)) + 1)) + 1)⟩ : S90)) (k90_mkM _ _ _ (⟨(rd_T90 y19 x5_1).f0, (rd_T90 y19 x5_1).f1, (rd_T90 y19 x5_1).f2, wrap64 ((wrap64 ((wrap64 (x1_1 + 1)) + 1)) + 1)⟩ : S90) ) (fun _ hk => hk); have hx16_3 := hcc16 3 _ rfl; (try simp only [show (k90).sz = 4 from rfl, Nat.mul_one, Nat.add_zero] at hx16_3); have hf16_3 := hfr16 3; (try simp only [show (k90).sz = 4 from rfl, Nat.mul_one, Nat.add_zero] at hf16_3); clear hcl16 hcc16 hfr16; (try clear hM16)) | ((with_reducible refine gate_store (t := 2) (p := 39) rfl ?_); refine store_event (t := 2) (p := 39) (v := ?vo_w17) (w1 := (w15.setCell ⟨go5, (x5_1 : Int).toNat * 4 + 3, none⟩ (.int .i64 (wrap64 ((wrap64 ((wrap64 (x1_1 + 1)) + 1)) + 1))))) ?hg ?ho ?hn ?hr ?_; (case ho => rfl); (case hg => rfl); (case hn => rfl); (case hr => first | (go_simp; done) | (go_simp; rfl)); intro w17 hw; have hg : w15.grownBy w17 (some go5) := (by rw [hw]; exact HP16.2); have hp_ : Kd.R k90 90 w17 w0.heap.size (fun k_ => (P0_ k_ ∨ w.heap.size ≤ k_)) (.slice (some ⟨go5, 0, none⟩) x0_1.length co9) y22 := (by rw [hw, Ny22.out]; exact HP16.1); clear HP16; have n0_ := Aside0.mk (hp_); have n1_ := Aside0.mk ((by rw [hw]; exact below_set (HB.out) GB5.out : Below w0.heap.size w0 w17)); have n2_ := Aside0.mk (Kept.of_grown (S := (fun k_ => P0_ k_)) hg (by repeat (first | (with_reducible first | exact HK.out | apply Kept.alloc | apply Kept.drewN | apply Kept.drew) | exact HK.out)) (fun k_ e_ => (HO_0.out.1 k_ e_))); clear HO_0; clear HB; clear HK; have HO_0 := n0_; have HB := n1_; have HK := n2_; clear n0_ n1_ n2_; clear hg hw hp_))
     go_roundg k1
     case measure => have := HK1.out; omega
     case rel => exact ⟨(y22), (wrap64 ((wrap64 ((wrap64 ((wrap64 (x1_1 + 1)) + 1)) + 1)) + 1)), (wrap64 (x5_1 + 1)), zs, zs, H', ⟨by have := HK1.out; omega⟩, ⟨by (with_reducible repeat (first | apply Kd.R_alloc | apply Kd.R_drewN | apply Kd.R_drew)); exact HO_0.out⟩, ⟨by repeat (first | (with_reducible first | exact HK.out | apply Kept.alloc | apply Kept.drewN | apply Kept.drew) | exact HK.out)⟩, ⟨zb⟩⟩
    rw [if_neg c4] at H
    exact absurd H (by simp)
   rw [if_neg c3] at H
   have c3b0 : decide (x5_1 < (x0_1.length : Int)) = false := decide_eq_false c3
   clear c3
   simp only [Option.some.injEq, Prod.mk.injEq] at H
   obtain ⟨rfl, rfl⟩ := H
   obtain ⟨Ao18, co18, eo18⟩ := Kd.R_slice HO_0.out
   subst eo18
   go_wp2
   go_ret
   exact ⟨ze, by (with_reducible repeat (first | apply Kd.R_alloc | apply Kd.R_drewN | apply Kd.R_drew)); exact HO_0.out, zb, by repeat (first | (with_reducible first | exact HK.out | apply Kept.alloc | apply Kept.drewN | apply Kept.drew) | exact HK.out)⟩
-- PROOF --
theorem H_cells {α : Type} {d : Kd α} {e g n cap base : Nat} {W : World} {ok oki : Nat → Prop} {xs : List α} {i : Int} {c : List Value} (h : Kd.H d e W base ok (.slice (some ⟨g, 0, none⟩) n cap) xs i oki c) (h0 : 0 ≤ i) (h1 : i < n) :
 (∀ j u, c[j]? = some u → W.cell? ⟨g, i.toNat * d.sz + j, none⟩ = some u) ∧ (∀ j, W.frozen? ⟨g, i.toNat * d.sz + j, none⟩ = false) := by
 obtain ⟨rows, hlen, hraw, _, _, hcc, _⟩ := Kd.H_raw h h0 h1
 obtain ⟨_, _, _, _, hfr⟩ := Kd.R_elem hraw [] i h0 h1
 exact ⟨hcc, hfr⟩
set_option maxHeartbeats 8000000 in
set_option maxRecDepth 100000 in
theorem laws_markTxnS.calls (k : Nat) (P0_ : Nat → Prop) (u9000_ : Value) (l0 : List S83) (a1 : Int) (r1 : Int) (r2 : List S83) (w0 w : World) (hB : Below w0.heap.size w0 w) (ho0 : Kd.S k83 83 w w0.heap.size P0_ u9000_ l0) (h : laws_markTxnS.f k l0 a1 = some (r1, r2)) :
 Calls Try.prog 89 #[u9000_, .int .i64 a1] w fun e w' => e = .returned (.int .i64 r1) ∧ Kd.S k83 83 w' w0.heap.size (fun k_ => P0_ k_ ∨ w.heap.size ≤ k_) u9000_ r2 ∧ Below w0.heap.size w0 w' ∧ Kept w w' (fun k_ => P0_ k_) := by
 have hu83 := Try.underlying83
 have HO0 := Aside0.mk (show Kd.S k83 83 w w0.heap.size (fun k_ => P0_ k_ ∨ w.heap.size ≤ k_) u9000_ l0 from Kd.S_mono ho0 (fun k_ hk => .inl hk))
 have HK := Aside0.mk (Kept.refl w (fun k_ => P0_ k_))
 have HB := Aside0.mk hB
 have HW0 := Aside0.mk hB.size
 clear hB ho0
 have H' := Aside0.mk (show laws_markTxnS.l0 k l0 a1 0 = some (r1, r2) from h)
 clear h
 go_enter Try.func89, Try.ntmps89
 go_wp2
 go_loopg [1, 5] k (fun kq v1 v5 wr => ∃ (xs : List S83) (m x5 : Int), v1 = .int .i64 m ∧ v5 = .int .i64 x5 ∧ Aside0 (laws_markTxnS.l0 kq xs m x5 = some (r1, r2)) ∧ Aside0 (kq ≤ k) ∧ Aside0 (Kd.S k83 83 wr w0.heap.size (fun k_ => P0_ k_ ∨ w.heap.size ≤ k_) u9000_ xs) ∧ Aside0 (Kept w wr (fun k_ => P0_ k_)) ∧ Aside0 (Below w0.heap.size w0 wr))
 case atStart => exact ⟨l0, a1, 0, rfl, rfl, H', ⟨Nat.le_refl _⟩, HO0, HK, HB⟩
 case round =>
  clear H' HO0
  obtain ⟨xs, m, x5, rfl, rfl, HA, HK1, HO, HKr, HBr⟩ := hrel
  clear HK HB
  cases gk with
  | zero => exact absurd HA.out (by simp [laws_markTxnS.l0])
  | succ k1 =>
   have H := HA.out
   clear HA
   simp only [laws_markTxnS.l0] at H
   by_cases c3 : x5 < (xs.length : Int)
   ·rw [if_pos c3] at H
    have c3b0 : decide (x5 < (xs.length : Int)) = true := decide_eq_true c3
    by_cases c4 : 0 ≤ x5
    ·rw [if_pos c4] at H
     have c4b0 : decide (0 ≤ x5) = true := decide_eq_true c4
     obtain ⟨t4, ht4, H⟩ := Option.bind_eq_some_iff.mp H
     have HT4 := Aside0.mk ht4
     clear ht4
     have H' := Aside0.mk H
     clear H
     obtain ⟨g, cap, eu, gb, gl, _⟩ := Kd.S_form HO.out (by omega)
     have HO2 := HO.out
     rw [eu] at HO2
     obtain ⟨oki, c, hcl, hM, -, -, hoki, hH⟩ := Kd.S_elem HO2 z83 x5 c4 c3
     obtain ⟨v4, rfl, hi4⟩ := k83_openM hM
     obtain ⟨I4, e4, rfl⟩ := Kd.R_slice hi4
     have HGB := Aside0.mk gb
     have HOK := Aside0.mk hoki
     have HE := Aside0.mk eu
     have HOS := Aside0.mk HO2
     clear HO2 hcl hM gb hoki eu HO
     obtain ⟨X, hX⟩ : ∃ x, x = rd_T83 xs x5 := ⟨_, rfl⟩
     have HI4 := Aside0.mk (show Kd.R k96 96 wr w0.heap.size oki (.slice I4 X.f4.length e4) X.f4 from by rw [hX]; exact hi4)
     have HG0 := Aside0.mk (show Kd.H k83 83 wr w0.heap.size (fun k_ => P0_ k_ ∨ w.heap.size ≤ k_) (.slice (some ⟨g, 0, none⟩) xs.length cap) xs x5 oki [.int .i64 X.f0, .int .i64 X.f1, .int .i64 X.f2, .int .i64 X.f3, .slice I4 X.f4.length e4] from by rw [hX]; exact hH)
     rw [← hX] at HT4
     clear hH hX hi4
     have hgn : ∀ k_, oki k_ → k_ ≠ g := fun k_ hk => (HOK.out k_ hk).2
     have HGN := Aside0.mk hgn
     clear hgn
     have HEE := HE.out
     subst HEE
     have p5 : (0 ≤ x5) = True := eq_true c4
     have q5 : (x5 < (xs.length : Int)) = True := eq_true c3
     obtain ⟨hc0, hf0⟩ := H_cells HG0.out c4 c3
     have a0_0 : wr.cell? ⟨g, x5.toNat * 5, none⟩ = some (.int .i64 X.f0) := hc0 0 _ rfl
     have b0_0 : wr.frozen? ⟨g, x5.toNat * 5, none⟩ = false := hf0 0
     have a0_1 : wr.cell? ⟨g, x5.toNat * 5 + 1, none⟩ = some (.int .i64 X.f1) := hc0 1 _ rfl
     have b0_1 : wr.frozen? ⟨g, x5.toNat * 5 + 1, none⟩ = false := hf0 1
     have a0_2 : wr.cell? ⟨g, x5.toNat * 5 + 2, none⟩ = some (.int .i64 X.f2) := hc0 2 _ rfl
     have b0_2 : wr.frozen? ⟨g, x5.toNat * 5 + 2, none⟩ = false := hf0 2
     have a0_3 : wr.cell? ⟨g, x5.toNat * 5 + 3, none⟩ = some (.int .i64 X.f3) := hc0 3 _ rfl
     have b0_3 : wr.frozen? ⟨g, x5.toNat * 5 + 3, none⟩ = false := hf0 3
     have a0_4 : wr.cell? ⟨g, x5.toNat * 5 + 4, none⟩ = some (.slice I4 X.f4.length e4) := hc0 4 _ rfl
     have b0_4 : wr.frozen? ⟨g, x5.toNat * 5 + 4, none⟩ = false := hf0 4
     clear hc0 hf0
     have HMG := Aside0.mk ((Kd.S_R HOS.out).1 g rfl)
     go_wp2_with (first | (go_at_call 131; have hs : Kd.H k83 83 ((((wr.setCell ⟨g, x5.toNat * 5, none⟩ (.int .i64 m)).setCell ⟨g, x5.toNat * 5 + 1, none⟩ (.int .i64 (wrap64 (m + 1)))).setCell ⟨g, x5.toNat * 5 + 2, none⟩ (.int .i64 (wrap64 ((wrap64 (m + 1)) + 1)))).setCell ⟨g, x5.toNat * 5 + 3, none⟩ (.int .i64 (wrap64 ((wrap64 ((wrap64 (m + 1)) + 1)) + 1)))) w0.heap.size (fun k_ => P0_ k_ ∨ w.heap.size ≤ k_) (.slice (some ⟨g, 0, none⟩) xs.length cap) xs x5 oki [.int .i64 m, .int .i64 (wrap64 (m + 1)), .int .i64 (wrap64 ((wrap64 (m + 1)) + 1)), .int .i64 (wrap64 ((wrap64 ((wrap64 (m + 1)) + 1)) + 1)), .slice I4 X.f4.length e4] ∧ World.grownBy wr ((((wr.setCell ⟨g, x5.toNat * 5, none⟩ (.int .i64 m)).setCell ⟨g, x5.toNat * 5 + 1, none⟩ (.int .i64 (wrap64 (m + 1)))).setCell ⟨g, x5.toNat * 5 + 2, none⟩ (.int .i64 (wrap64 ((wrap64 (m + 1)) + 1)))).setCell ⟨g, x5.toNat * 5 + 3, none⟩ (.int .i64 (wrap64 ((wrap64 ((wrap64 (m + 1)) + 1)) + 1)))) (some g) := Kd.H_seg HG0.out c4 c3 (seg := [.int .i64 m, .int .i64 (wrap64 (m + 1)), .int .i64 (wrap64 ((wrap64 (m + 1)) + 1)), .int .i64 (wrap64 ((wrap64 ((wrap64 (m + 1)) + 1)) + 1))]) (j := 0) (show 0 + 4 ≤ 5 from by decide) (by intro q hq; simp only [List.mem_cons, List.not_mem_nil, or_false] at hq; rcases hq with rfl | rfl | rfl | rfl <;> rfl); generalize ((((wr.setCell ⟨g, x5.toNat * 5, none⟩ (.int .i64 m)).setCell ⟨g, x5.toNat * 5 + 1, none⟩ (.int .i64 (wrap64 (m + 1)))).setCell ⟨g, x5.toNat * 5 + 2, none⟩ (.int .i64 (wrap64 ((wrap64 (m + 1)) + 1)))).setCell ⟨g, x5.toNat * 5 + 3, none⟩ (.int .i64 (wrap64 ((wrap64 ((wrap64 (m + 1)) + 1)) + 1)))) = w11 at hs ⊢; have G1 := Aside0.mk hs.1; have hgr := hs.2; have K1 := Aside0.mk (Kept.of_grown (S := fun k_ => P0_ k_) hgr HKr.out (fun k_ e_ => by injection e_ with e_; subst e_; exact HMG.out)); have B1 := Aside0.mk (HBr.out.grown hgr HBr.out.size (fun k_ e_ => by injection e_ with e_; subst e_; exact HGB.out)); have I1_4 := Aside0.mk (Kd.R_grown HI4.out hgr (fun k_ hk e_ => HGN.out k_ hk (by injection e_))); clear hgr hs; refine (laws_markUndoS.calls k1 oki (.slice I4 X.f4.length e4) X.f4 (wrap64 ((wrap64 ((wrap64 ((wrap64 (m + 1)) + 1)) + 1)) + 1)) t4.1 t4.2 w0 w11 B1.out I1_4.out HT4.out).mono ?_; rintro e w12 ⟨rfl, hR, hBn, hKn⟩; have G2 := Aside0.mk (Kd.H_step (Kd.H_widen G1.out) (fun k_ h1_ h2_ h3_ => hKn.2 k_ h3_ (fun h4_ => h2_ (.inl h4_)))); have K2 := Aside0.mk (Kept.then_ (S := fun k_ => P0_ k_) K1.out hKn (fun k_ hk => (HOK.out k_ hk).1)); have B2 := Aside0.mk hBn; have J4 := Aside0.mk hR; clear hKn hBn hR))
     have HN := Aside0.mk (Kd.H_back (x' := (⟨m, (wrap64 (m + 1)), (wrap64 ((wrap64 (m + 1)) + 1)), (wrap64 ((wrap64 ((wrap64 (m + 1)) + 1)) + 1)), t4.2⟩ : S83)) G2.out (k83_mkM _ _ _ (⟨m, (wrap64 (m + 1)), (wrap64 ((wrap64 (m + 1)) + 1)), (wrap64 ((wrap64 ((wrap64 (m + 1)) + 1)) + 1)), t4.2⟩ : S83) J4.out) (fun k_ hk => hk.elim .inl (fun h2 => .inr ⟨.inr (Nat.le_trans K1.out.1 h2), h2⟩)))
     go_roundg k1
     case measure => have := HK1.out; omega
     case rel => exact ⟨_, _, wrap64 (x5 + 1), rfl, by first | rfl | go_num, H', ⟨by have := HK1.out; omega⟩, HN, K2, B2⟩
    rw [if_neg c4] at H
    exact absurd H (by simp)
   rw [if_neg c3] at H
   have c3b0 : decide (x5 < (xs.length : Int)) = false := decide_eq_false c3
   simp only [Option.some.injEq, Prod.mk.injEq] at H
   obtain ⟨rfl, rfl⟩ := H
   obtain ⟨Ao, co, eo⟩ := Kd.S_slice HO.out
   have HOO := HO.out
   rw [eo] at HOO
   subst eo
   have HOX := Aside0.mk HOO
   clear HOO
   go_wp2
   go_ret
   exact ⟨rfl, HO.out, HBr.out, HKr.out⟩
set_option maxHeartbeats 8000000 in
set_option maxRecDepth 100000 in
theorem laws_markRowS.calls (k : Nat) (P0_ : Nat → Prop) (u9000_ : Value) (l0 : List S87) (a1 : Int) (r1 : Int) (r2 : List S87) (w0 w : World) (hB : Below w0.heap.size w0 w) (ho0 : Kd.S k87 87 w w0.heap.size P0_ u9000_ l0) (h : laws_markRowS.f k l0 a1 = some (r1, r2)) :
 Calls Try.prog 90 #[u9000_, .int .i64 a1] w fun e w' => e = .returned (.int .i64 r1) ∧ Kd.S k87 87 w' w0.heap.size (fun k_ => P0_ k_ ∨ w.heap.size ≤ k_) u9000_ r2 ∧ Below w0.heap.size w0 w' ∧ Kept w w' (fun k_ => P0_ k_) := by
 have hu87 := Try.underlying87
 have HO0 := Aside0.mk (show Kd.S k87 87 w w0.heap.size (fun k_ => P0_ k_ ∨ w.heap.size ≤ k_) u9000_ l0 from Kd.S_mono ho0 (fun k_ hk => .inl hk))
 have HK := Aside0.mk (Kept.refl w (fun k_ => P0_ k_))
 have HB := Aside0.mk hB
 have HW0 := Aside0.mk hB.size
 clear hB ho0
 have H' := Aside0.mk (show laws_markRowS.l0 k l0 a1 0 = some (r1, r2) from h)
 clear h
 go_enter Try.func90, Try.ntmps90
 go_wp2
 go_loopg [1, 5] k (fun kq v1 v5 wr => ∃ (xs : List S87) (m x5 : Int), v1 = .int .i64 m ∧ v5 = .int .i64 x5 ∧ Aside0 (laws_markRowS.l0 kq xs m x5 = some (r1, r2)) ∧ Aside0 (kq ≤ k) ∧ Aside0 (Kd.S k87 87 wr w0.heap.size (fun k_ => P0_ k_ ∨ w.heap.size ≤ k_) u9000_ xs) ∧ Aside0 (Kept w wr (fun k_ => P0_ k_)) ∧ Aside0 (Below w0.heap.size w0 wr))
 case atStart => exact ⟨l0, a1, 0, rfl, rfl, H', ⟨Nat.le_refl _⟩, HO0, HK, HB⟩
 case round =>
  clear H' HO0
  obtain ⟨xs, m, x5, rfl, rfl, HA, HK1, HO, HKr, HBr⟩ := hrel
  clear HK HB
  cases gk with
  | zero => exact absurd HA.out (by simp [laws_markRowS.l0])
  | succ k1 =>
   have H := HA.out
   clear HA
   simp only [laws_markRowS.l0] at H
   by_cases c3 : x5 < (xs.length : Int)
   ·rw [if_pos c3] at H
    have c3b0 : decide (x5 < (xs.length : Int)) = true := decide_eq_true c3
    by_cases c4 : 0 ≤ x5
    ·rw [if_pos c4] at H
     have c4b0 : decide (0 ≤ x5) = true := decide_eq_true c4
     obtain ⟨t1, ht1, H⟩ := Option.bind_eq_some_iff.mp H
     have HT1 := Aside0.mk ht1
     clear ht1
     have H' := Aside0.mk H
     clear H
     obtain ⟨g, cap, eu, gb, gl, _⟩ := Kd.S_form HO.out (by omega)
     have HO2 := HO.out
     rw [eu] at HO2
     obtain ⟨oki, c, hcl, hM, -, -, hoki, hH⟩ := Kd.S_elem HO2 z87 x5 c4 c3
     obtain ⟨v1, rfl, hi1⟩ := k87_openM hM
     obtain ⟨I1, e1, rfl⟩ := Kd.R_slice hi1
     have HGB := Aside0.mk gb
     have HOK := Aside0.mk hoki
     have HE := Aside0.mk eu
     have HOS := Aside0.mk HO2
     clear HO2 hcl hM gb hoki eu HO
     obtain ⟨X, hX⟩ : ∃ x, x = rd_T87 xs x5 := ⟨_, rfl⟩
     have HI1 := Aside0.mk (show Kd.R k90 90 wr w0.heap.size oki (.slice I1 X.f1.length e1) X.f1 from by rw [hX]; exact hi1)
     have HG0 := Aside0.mk (show Kd.H k87 87 wr w0.heap.size (fun k_ => P0_ k_ ∨ w.heap.size ≤ k_) (.slice (some ⟨g, 0, none⟩) xs.length cap) xs x5 oki [.int .i64 X.f0, .slice I1 X.f1.length e1] from by rw [hX]; exact hH)
     rw [← hX] at HT1
     clear hH hX hi1
     have hgn : ∀ k_, oki k_ → k_ ≠ g := fun k_ hk => (HOK.out k_ hk).2
     have HGN := Aside0.mk hgn
     clear hgn
     have HEE := HE.out
     subst HEE
     have p5 : (0 ≤ x5) = True := eq_true c4
     have q5 : (x5 < (xs.length : Int)) = True := eq_true c3
     obtain ⟨hc0, hf0⟩ := H_cells HG0.out c4 c3
     have a0_0 : wr.cell? ⟨g, x5.toNat * 2, none⟩ = some (.int .i64 X.f0) := hc0 0 _ rfl
     have b0_0 : wr.frozen? ⟨g, x5.toNat * 2, none⟩ = false := hf0 0
     have a0_1 : wr.cell? ⟨g, x5.toNat * 2 + 1, none⟩ = some (.slice I1 X.f1.length e1) := hc0 1 _ rfl
     have b0_1 : wr.frozen? ⟨g, x5.toNat * 2 + 1, none⟩ = false := hf0 1
     clear hc0 hf0
     have HMG := Aside0.mk ((Kd.S_R HOS.out).1 g rfl)
     go_wp2_with (first | (go_at_call 91; have hs : Kd.H k87 87 (wr.setCell ⟨g, x5.toNat * 2, none⟩ (.int .i64 m)) w0.heap.size (fun k_ => P0_ k_ ∨ w.heap.size ≤ k_) (.slice (some ⟨g, 0, none⟩) xs.length cap) xs x5 oki [.int .i64 m, .slice I1 X.f1.length e1] ∧ World.grownBy wr (wr.setCell ⟨g, x5.toNat * 2, none⟩ (.int .i64 m)) (some g) := Kd.H_seg HG0.out c4 c3 (seg := [.int .i64 m]) (j := 0) (show 0 + 1 ≤ 2 from by decide) (by intro q hq; simp only [List.mem_cons, List.not_mem_nil, or_false] at hq; rcases hq with rfl <;> rfl); generalize (wr.setCell ⟨g, x5.toNat * 2, none⟩ (.int .i64 m)) = w11 at hs ⊢; have G1 := Aside0.mk hs.1; have hgr := hs.2; have K1 := Aside0.mk (Kept.of_grown (S := fun k_ => P0_ k_) hgr HKr.out (fun k_ e_ => by injection e_ with e_; subst e_; exact HMG.out)); have B1 := Aside0.mk (HBr.out.grown hgr HBr.out.size (fun k_ e_ => by injection e_ with e_; subst e_; exact HGB.out)); have I1_1 := Aside0.mk (Kd.R_grown HI1.out hgr (fun k_ hk e_ => HGN.out k_ hk (by injection e_))); clear hgr hs; refine (laws_markVersionS.calls k1 oki (.slice I1 X.f1.length e1) X.f1 (wrap64 (m + 1)) t1.1 t1.2 w0 w11 B1.out I1_1.out HT1.out).mono ?_; rintro e w12 ⟨rfl, hR, hBn, hKn⟩; have G2 := Aside0.mk (Kd.H_step (Kd.H_widen G1.out) (fun k_ h1_ h2_ h3_ => hKn.2 k_ h3_ (fun h4_ => h2_ (.inl h4_)))); have K2 := Aside0.mk (Kept.then_ (S := fun k_ => P0_ k_) K1.out hKn (fun k_ hk => (HOK.out k_ hk).1)); have B2 := Aside0.mk hBn; have J1 := Aside0.mk hR; clear hKn hBn hR))
     have HN := Aside0.mk (Kd.H_back (x' := (⟨m, t1.2⟩ : S87)) G2.out (k87_mkM _ _ _ (⟨m, t1.2⟩ : S87) J1.out) (fun k_ hk => hk.elim .inl (fun h2 => .inr ⟨.inr (Nat.le_trans K1.out.1 h2), h2⟩)))
     go_roundg k1
     case measure => have := HK1.out; omega
     case rel => exact ⟨_, _, wrap64 (x5 + 1), rfl, by first | rfl | go_num, H', ⟨by have := HK1.out; omega⟩, HN, K2, B2⟩
    rw [if_neg c4] at H
    exact absurd H (by simp)
   rw [if_neg c3] at H
   have c3b0 : decide (x5 < (xs.length : Int)) = false := decide_eq_false c3
   simp only [Option.some.injEq, Prod.mk.injEq] at H
   obtain ⟨rfl, rfl⟩ := H
   obtain ⟨Ao, co, eo⟩ := Kd.S_slice HO.out
   have HOO := HO.out
   rw [eo] at HOO
   subst eo
   have HOX := Aside0.mk HOO
   clear HOO
   go_wp2
   go_ret
   exact ⟨rfl, HO.out, HBr.out, HKr.out⟩
theorem two_types {W : World} {k a b c d : Nat} (h1 : ∃ q_ : Nat, q_ ∈ [a, b] ∧ ∃ cells, W.heap[k]? = some (.cells cells q_ (0, 0))) (h2 : ∃ q_ : Nat, q_ ∈ [c, d] ∧ ∃ cells, W.heap[k]? = some (.cells cells q_ (0, 0))) (h : a ≠ c ∧ a ≠ d ∧ b ≠ c ∧ b ≠ d) : False := by
 obtain ⟨q1, m1, c1, e1⟩ := h1
 obtain ⟨q2, m2, c2, e2⟩ := h2
 rw [e1] at e2
 have e3 := Option.some.inj e2
 injection e3 with x1 x2 x3
 subst x2
 simp only [List.mem_cons, List.not_mem_nil, or_false] at m1 m2
 obtain ⟨h1, h2, h3, h4⟩ := h
 rcases m1 with rfl | rfl <;> rcases m2 with m2 | m2 <;> first | exact h1 m2 | exact h2 m2 | exact h3 m2 | exact h4 m2
set_option maxHeartbeats 8000000 in
set_option maxRecDepth 100000 in
theorem laws_markEngine.calls (k : Nat) (a0_0 a0_1 : Int) (P2 : Nat → Prop) (u2 : Value) (l0_2 : List S83) (P3 : Nat → Prop) (u3 : Value) (l0_3 : List S87) (a1 r1 : Int) (r2 : List S83) (r3 : List S87) (w0 w : World) (hB : Below w0.heap.size w0 w) (ho2 : Kd.S k83 83 w w0.heap.size P2 u2 l0_2) (ho3 : Kd.S k87 87 w w0.heap.size P3 u3 l0_3) (hap : ∀ k_, P2 k_ → P3 k_ → False) (h : laws_markEngine.f k a0_0 a0_1 l0_2 l0_3 a1 = some (r1, r2, r3)) :
 Calls Try.prog 33 #[.agg #[.int .i64 a0_0, .int .i64 a0_1, u2, u3], .int .i64 a1] w fun e w' => e = .returned (.int .i64 r1) ∧ Kd.S k83 83 w' w0.heap.size (fun k_ => P2 k_ ∨ w.heap.size ≤ k_) u2 r2 ∧ Kd.S k87 87 w' w0.heap.size (fun k_ => P3 k_ ∨ w.heap.size ≤ k_) u3 r3 ∧ Below w0.heap.size w0 w' ∧ Kept w w' (fun k_ => P2 k_ ∨ P3 k_) := by
 have hu31 := Try.underlying31
 unfold laws_markEngine.f at h
 obtain ⟨⟨m1, m2⟩, hm, h⟩ := Option.bind_eq_some_iff.mp h
 obtain ⟨⟨n1, n2⟩, hn, h⟩ := Option.bind_eq_some_iff.mp h
 simp only [Option.some.injEq, Prod.mk.injEq] at h
 obtain ⟨rfl, rfl, rfl⟩ := h
 have HM := Aside0.mk hm
 have HN := Aside0.mk hn
 clear hm hn
 obtain ⟨A2, c2, e2⟩ := Kd.S_slice ho2
 obtain ⟨A3, c3, e3⟩ := Kd.S_slice ho3
 subst e2
 subst e3
 have S2 := Aside0.mk (Kd.S_alloc ho2 (Obj.cells #[.int .i64 a0_0, .int .i64 a0_1, .slice A2 l0_2.length c2, .slice A3 l0_3.length c3] 31))
 have S3 := Aside0.mk (Kd.S_alloc ho3 (Obj.cells #[.int .i64 a0_0, .int .i64 a0_1, .slice A2 l0_2.length c2, .slice A3 l0_3.length c3] 31))
 have HB := Aside0.mk (below_alloc hB (Obj.cells #[.int .i64 a0_0, .int .i64 a0_1, .slice A2 l0_2.length c2, .slice A3 l0_3.length c3] 31))
 have XB := Aside0.mk (blk_new w (Obj.cells #[.int .i64 a0_0, .int .i64 a0_1, .slice A2 l0_2.length c2, .slice A3 l0_3.length c3] 31))
 have HK := Aside0.mk (Kept.of_below (below_alloc (Below.refl w.heap.size w) (Obj.cells #[.int .i64 a0_0, .int .i64 a0_1, .slice A2 l0_2.length c2, .slice A3 l0_3.length c3] 31)) (fun k_ => P2 k_ ∨ P3 k_))
 have S2n := Aside0.mk (Kd.S_mono (Kd.S_bound ho2) (fun k_ h_ => ⟨h_.1, h_.2.2.1⟩) : Kd.S k83 83 w w0.heap.size (fun k_ => P2 k_ ∧ k_ < w.heap.size) (.slice A2 l0_2.length c2) l0_2)
 have S2m := Aside0.mk (Kd.S_alloc S2n.out (Obj.cells #[.int .i64 a0_0, .int .i64 a0_1, .slice A2 l0_2.length c2, .slice A3 l0_3.length c3] 31))
 have S3n := Aside0.mk (Kd.S_mono (Kd.S_bound ho3) (fun k_ h_ => ⟨h_.1, h_.2.2.1⟩) : Kd.S k87 87 w w0.heap.size (fun k_ => P3 k_ ∧ k_ < w.heap.size) (.slice A3 l0_3.length c3) l0_3)
 have S3m := Aside0.mk (Kd.S_alloc S3n.out (Obj.cells #[.int .i64 a0_0, .int .i64 a0_1, .slice A2 l0_2.length c2, .slice A3 l0_3.length c3] 31))
 have hz : w.heap.size + 1 = (w.alloc (Obj.cells #[.int .i64 a0_0, .int .i64 a0_1, .slice A2 l0_2.length c2, .slice A3 l0_3.length c3] 31)).heap.size := by simp
 have HZ := Aside0.mk hz
 clear hz ho2 ho3 hB S2 S3 S2n S3n
 go_enter Try.func33, Try.ntmps33
 go_wp2_with fail
 generalize w.alloc (Obj.cells #[.int .i64 a0_0, .int .i64 a0_1, .slice A2 l0_2.length c2, .slice A3 l0_3.length c3] 31) = u at HB XB HK S2m S3m HZ ⊢
 refine (laws_markTxnS.calls k (fun k_ => P2 k_ ∧ k_ < w.heap.size) _ l0_2 a1 m1 m2 w0 u HB.out S2m.out HM.out).mono ?_
 rintro e u2 ⟨rfl, s2, hB2, hk2⟩
 have XB2 := Aside0.mk ((hk2.2 _ (blk_lt XB.out) (fun hp => Nat.lt_irrefl _ hp.2)).trans XB.out)
 have S3k := Aside0.mk (Kd.S_step S3m.out (fun k_ ho_ hlt_ => hk2.2 k_ hlt_ (fun hp => hap k_ hp.1 ho_.1)))
 have HK2 := Aside0.mk (Kept.then_ HK.out hk2 (fun k_ hp => .inl (.inl hp.1)))
 have S2r := Aside0.mk s2
 have HB2 := Aside0.mk hB2
 have HZ2 := Aside0.mk hk2.1
 clear s2 hB2 hk2 S2m S3m HB HK XB
 have c2_ : u2.cell? ⟨w.heap.size, 2, none⟩ = some (.slice A2 l0_2.length c2) := (blk_cell XB2.out 2).trans rfl
 have c3_ : u2.cell? ⟨w.heap.size, 3, none⟩ = some (.slice A3 l0_3.length c3) := (blk_cell XB2.out 3).trans rfl
 go_wp2_with fail
 refine (laws_markRowS.calls k (fun k_ => P3 k_ ∧ k_ < w.heap.size) _ l0_3 m1 n1 n2 w0 u2 HB2.out S3k.out HN.out).mono ?_
 rintro e u3 ⟨rfl, s3, hB3, hk3⟩
 have S3r := Aside0.mk s3
 have S2k := Aside0.mk (Kd.S_step (Kd.S_bound S2r.out) (fun k_ ho_ hlt_ => hk3.2 k_ hlt_ (fun hp => ho_.1.elim (fun h1 => hap k_ h1.1 hp.1) (fun h1 => by have := HZ.out; have := hp.2; omega))))
 have HK3 := Aside0.mk (Kept.then_ HK2.out hk3 (fun k_ hp => .inl (.inr hp.1)))
 have HB3 := Aside0.mk hB3
 have HZ3 := Aside0.mk hk3.1
 clear s3 hB3 hk3 c2_ c3_
 go_wp2_with fail
 go_ret
 exact ⟨rfl, Kd.S_mono S2k.out (fun k_ h_ => h_.1.elim (fun h1 => .inl h1.1) (fun h1 => .inr (by have := HZ.out; omega))), Kd.S_mono S3r.out (fun k_ h_ => h_.elim (fun h1 => .inl h1.1) (fun h1 => .inr (by have := HZ.out; have := HZ2.out; omega))), HB3.out, HK3.out⟩
end Go.Proofs.Ytonbnmaelepcbaa.P
