import Derived.Test.YtocdahbinombkaaGreatP0
import Derived.Test.YtocdahbinombkaaGreatPCall9
import Derived.Test.YtocdahbinombkaaGreatPDall0
import Derived.Test.YtocdahbinombkaaGreatWRepsOne
import Derived.Test.YtocdahbinombkaaGreatZz
import Derived.Test.YtocdahbinombkaaGreatLb
import Derived.Test.YtocdahbinombkaaGreatLv
import Derived.Test.YtocdahbinombkaaGreatLi
import Derived.IntWalk
import Derived.Shelf.Abstract
import Derived.Test.YtocdahbinombkaaGreatLv
import Derived.Test.YtocdahbinombkaaGreatLv
namespace Go.Proofs.YtocdahbinombkaaGreat.P
open Go.RowKit Go.Proofs.YtocdahbinombkaaGreatW.PrintWords Go.Proofs.YtocdahbinombkaaGreatW.PrintLast Go.Proofs.YtocdahbinombkaaGreatW.PrintMore
attribute [local go_sem] max2_int min2_int max_two min_two max_three min_three max_four min_four   -- for this text's walks alone
set_option linter.unusedVariables false
set_option linter.unusedSimpArgs false
-- PROOF --
def encC (x : S55) : List Value := [.int .i64 x.f0, .int .i64 x.f1]
theorem encC_len : ∀ (l : List S55), (l.flatMap encC).length = l.length * 2
 | [] => rfl
 | x :: xs => by rw [List.flatMap_cons, List.length_append, encC_len xs, List.length_cons]; simp [encC]; omega
theorem addL (g a b : Nat) : (⟨g, a, none⟩ : Addr).add b = ⟨g, a + b, none⟩ := Addr.add_lit _ _ _
theorem cellW {W : List S55} {wt : World} {g m n cap : Nat} {A : Addr} (hh : Kd.R k55 55 wt 0 (fun _ => True) (.slice (some ⟨g, 0, none⟩) n cap) W) (hm : m < n) (hA : A = ⟨g, m * 2, none⟩) :
 wt.cell? A = some (.int .i64 (W.getD m z55).f0) ∧ wt.cell? ⟨A.block, A.off + 1, none⟩ = some (.int .i64 (W.getD m z55).f1) := by
 subst hA
 have e := (Kd.R_reads' hh).1
 obtain ⟨_, ea, h0, h1⟩ := at_T55 (Kd.R_reads' hh).2.2 (m : Int) (by omega) (by omega)
 cases ea
 rw [Int.toNat_natCast, addL, Nat.zero_add] at h0 h1
 exact ⟨h0, h1⟩
theorem k55_one (X : S55) : ∀ q ∈ [Value.int .i64 X.f0, .int .i64 X.f1], q.oneCell' = true := by intro q h; simp at h; rcases h with rfl | rfl <;> rfl
theorem ccZ {wd : World} {g k : Nat} {a b : Value} (h0 : wd.cell? ⟨g, k * 2, none⟩ = some a) (h1 : wd.cell? ⟨g, k * 2 + 1, none⟩ = some b) : ∀ j u, [a, b][j]? = some u → wd.cell? ⟨g, (k : Int).toNat * k55.sz + j, none⟩ = some u := by
 intro j u h
 rw [Int.toNat_natCast]
 match j, h with
 | 0, h => cases h; exact h0
 | 1, h => cases h; exact h1
theorem storeP {ops : Array Oper} {rest : List Oper} {o : Oper} {a : Act} {Q : Exit → Act → World → Prop} {w wd : World} {ad : Addr} {g n cap k : Nat} {W : List S55} {X Z : S55}
 (hN : o.dst = none) (hgd : o.guard = none) (ho : o.op = .store 55 (.tmp 51) (.tmp 50)) (haddr : a.eval (.tmp 51) = .pointer (some (ad.add (k * 2)))) (hx : a.eval (.tmp 50) = .agg #[.int .i64 X.f0, .int .i64 X.f1]) (had : ad = ⟨g, 0, none⟩) (hk : k < n)
 (HH : Kd.R k55 55 wd 0 (fun _ => True) (.slice (some ⟨g, 0, none⟩) n cap) W) (z0 : wd.cell? ⟨g, k * 2, none⟩ = some (.int .i64 Z.f0)) (z1 : wd.cell? ⟨g, k * 2 + 1, none⟩ = some (.int .i64 Z.f1)) (hgr : w.grownBy wd (some g))
 (h : ∀ w1, Kd.R k55 55 w1 0 (fun _ => True) (.slice (some ⟨g, 0, none⟩) n cap) (W.set k X) → w.grownBy w1 (some g) → wpList Tryz.prog ops Q rest a w1) : wpList Tryz.prog ops Q (o :: rest) a wd := by
 refine Kd.R_store k55 (w0 := wd) 0 hN hgd 55 (.tmp 51) (.tmp 50) ho 55 (g := g) (n := n) (cap := cap) (o' := k * 2) (k : Int) 0 W X (.agg #[.int .i64 X.f0, .int .i64 X.f1]) [.int .i64 X.f0, .int .i64 X.f1] [.int .i64 Z.f0, .int .i64 Z.f1] (fun _ => True) (fun _ => False) ?sa ?so hx rfl ?st (k55_one X) HH ?s0 ?s1 rfl (ccZ z0 z1) (Nat.le_refl 2) (k55_mkM _ _ _ X) (fun _ h => h.elim) (Below.refl _ _) ?_
 case sa => rw [haddr, had, addL, Nat.zero_add]
 case so => simp [k55]; rfl
 case st => kernel_rfl
 case s0 => omega
 case s1 => omega
 intro w1 hr1 hb1 hg1
 rw [Int.toNat_natCast] at hr1
 exact h w1 hr1 ⟨hg1.os.trans hgr.os, hg1.tape.trans hgr.tape, hg1.output.trans hgr.output, Nat.le_trans hgr.size hg1.size, fun q hq hn => (hg1.block q (Nat.lt_of_lt_of_le hq hgr.size) hn).trans (hgr.block q hq hn)⟩
theorem dropD {W l : List S55} {b m : Nat} (h : W.drop b = l.drop b) (hm : b ≤ m) : W.getD m z55 = l.getD m z55 := by
 rw [List.getD_eq_getElem?_getD, List.getD_eq_getElem?_getD]
 have e := congrArg (fun x => x[m - b]?) h
 simp only [List.getElem?_drop] at e
 rw [show b + (m - b) = m by omega] at e
 rw [e]
theorem dropS {W l : List S55} {b m : Nat} (h : W.drop b = l.drop b) (hm : b ≤ m) : W.drop m = l.drop m := by
 rw [show m = b + (m - b) by omega, ← List.drop_drop, ← List.drop_drop, h]
theorem cmpA_step {l : List S55} {i : Nat} {acc r : List S55} (h : i < l.length) (hr : r = acc ++ cmpA (l.getD (i - 1) z55) (l.drop i)) :
 (((l.getD i z55).f0 == (l.getD (i - 1) z55).f0 && ((l.getD i z55).f1 == (l.getD (i - 1) z55).f1)) = true → r = acc ++ cmpA (l.getD i z55) (l.drop (i + 1))) ∧
 (((l.getD i z55).f0 == (l.getD (i - 1) z55).f0 && ((l.getD i z55).f1 == (l.getD (i - 1) z55).f1)) = false → r = (acc ++ [l.getD i z55]) ++ cmpA (l.getD i z55) (l.drop (i + 1))) := by
 rw [List.drop_eq_getElem_cons h] at hr
 rw [Lb.getD_at h]
 generalize l.getD (i - 1) z55 = p at hr ⊢
 generalize l[i] = x at hr ⊢
 unfold cmpA at hr
 constructor
 ·intro e
  rw [if_pos e] at hr
  simp only [Bool.and_eq_true, beq_iff_eq] at e
  rcases x with ⟨x0, x1⟩
  rcases p with ⟨p0, p1⟩
  simp only at e
  obtain ⟨rfl, rfl⟩ := e
  exact hr
 intro e
 rw [if_neg (by rw [e]; decide)] at hr
 rw [hr]; simp
set_option maxHeartbeats 8000000 in
set_option maxRecDepth 100000 in
theorem compact_core (ad : Addr) (g cap : Nat) (l : List S55) (w : World) (had : Aside0 (ad = ⟨g, 0, none⟩)) (hg : Aside0 (Kd.R k55 55 w 0 (fun _ => True) (.slice (some ⟨g, 0, none⟩) l.length cap) l)) (hn : l.length ≤ cap) (hm : cap ≤ maxLen) :
 Calls Tryz.prog 73 #[.slice (some ad) l.length cap] w fun e w' => e = .returned (.slice (some ad) (compP l).length cap) ∧ Kd.R k55 55 w' 0 (fun _ => True) (.slice (some ⟨g, 0, none⟩) (compP l).length cap) (compP l) ∧ w.grownBy w' (some g) := by
 have hu55 := Tryz.underlying55
 have hu35 := Tryz.underlying35
 have hc63 : cap ≤ 9223372036854775807 := by unfold maxLen at hm; omega
 obtain ⟨r, hr⟩ : ∃ r, r = compP l := ⟨_, rfl⟩
 rw [← hr]
 have HR := Aside0.mk hr
 clear hr
 have mixed : Tryz.prog.follows Departure.mixedOrders = true := by kernel_rfl
 by_cases h2 : l.length < 2
 ·have d2 : decide ((l.length : Int) < 2) = true := decide_eq_true (by omega)
  go_enter Tryz.func73, Tryz.ntmps73
  go_wp2
  go_ret
  have e : r = l := by
   rw [HR.out]
   match l, h2 with
   | [], _ => rfl
   | [x], _ => rfl
  rw [e]
  exact ⟨rfl, hg.out, ⟨rfl, rfl, rfl, Nat.le_refl _, fun _ _ _ => rfl⟩⟩
 have d2 : decide ((l.length : Int) < 2) = false := decide_eq_false (by omega)
 go_enter Tryz.func73, Tryz.ntmps73
 go_wp2
 go_loopg [3] (l.length + 1) (fun gg v3 wr => ∃ (i : Nat), v3 = .int .i64 (i : Int) ∧ Aside0 (1 ≤ i) ∧ Aside0 (i ≤ l.length) ∧ Aside0 (l.length - i < gg) ∧ Aside0 (r = l.take i ++ cmpA (l.getD (i - 1) z55) (l.drop i)) ∧ Aside0 (∃ q, wr = w.drewN q))
 case atStart =>
  refine ⟨1, rfl, ⟨by omega⟩, ⟨by omega⟩, ⟨by omega⟩, ⟨?_⟩, ⟨0, rfl⟩⟩
  rw [HR.out]
  match l, h2 with
  | x :: y :: t, _ => rfl
 case round =>
  obtain ⟨i, rfl, HI1, HI, HG, HA, HQ⟩ := hrel
  obtain ⟨q, hq_⟩ := HQ.out
  have CW := Aside0.mk (show Kd.C k55 wr (some ad) l.length l from by rw [hq_]; rw [had.out]; exact Kd.C_drewN (Kd.R_reads' hg.out).2.2 q)
  clear hq_
  by_cases hlt : i < l.length
  ·have e3 : decide ((i : Int) < (l.length : Int)) = true := decide_eq_true (by omega)
   have e3' : decide (i < l.length) = true := decide_eq_true hlt
   have e4 : wrap64 ((i : Int) - 1) = ((i - 1 : Nat) : Int) := by have := HI1.out; rw [Lb.w64 (by omega) (by omega)]; omega
   have e5 : decide (((i - 1 : Nat) : Int) < (l.length : Int)) = true := decide_eq_true (by omega)
   have e5' : i - 1 < l.length := by omega
   obtain ⟨a_, ea, x0_, x1_⟩ := at_T55 CW.out (i : Int) (by omega) (by omega)
   cases ea
   obtain ⟨a_, ea, y0_, y1_⟩ := at_T55 CW.out ((i - 1 : Nat) : Int) (by omega) (by omega)
   cases ea
   have hst := cmpA_step hlt HA.out
   obtain ⟨X, hX⟩ : ∃ x, x = l.getD i z55 := ⟨_, rfl⟩
   obtain ⟨Y, hY⟩ : ∃ x, x = l.getD (i - 1) z55 := ⟨_, rfl⟩
   rw [show rd_T55 l (i : Int) = X from hX.symm, show (i : Int).toNat = i from Int.toNat_natCast i] at x0_ x1_
   rw [show rd_T55 l ((i - 1 : Nat) : Int) = Y from hY.symm, Int.toNat_natCast] at y0_ y1_
   rw [← hX, ← hY] at hst
   have HX := Aside0.mk hX
   have HY := Aside0.mk hY
   have HST := Aside0.mk hst
   have HTK := Aside0.mk (show l.take (i + 1) = l.take i ++ [X] from by rw [List.take_add_one, List.getElem?_eq_getElem hlt, HX.out, Lb.getD_at hlt]; rfl)
   clear hX hY hst
   generalize i - 1 = j1 at e4 e5 e5' y0_ y1_ HY
   go_upto_region 6 with fail
   by_cases q0 : X.f0 = Y.f0
   case neg =>
    have q0_ : (X.f0 = Y.f0) = False := eq_false q0
    clear q0
    have HA1 := Aside0.mk (HST.out.2 (by simp [q0_]))
    refine start_ (n := 10) (S := fun W_ => W_.cell? (ad.add (i * 2)) = some (.int .i64 X.f0) ∧ W_.cell? ⟨(ad.add (i * 2)).block, (ad.add (i * 2)).off + 1, none⟩ = some (.int .i64 X.f1) ∧ W_.cell? (ad.add (j1 * 2)) = some (.int .i64 Y.f0) ∧ W_.cell? ⟨(ad.add (j1 * 2)).block, (ad.add (j1 * 2)).off + 1, none⟩ = some (.int .i64 Y.f1)) (ds := []) #[false, false, false, false, false, false, false, false, false, false] (by kernel_rfl) rfl rfl ⟨x0_, x1_, y0_, y1_⟩ (fun hHeld => ?_)
    clear x0_ x1_ y0_ y1_
    have HQ2 := Aside0.mk (show ∃ q, wr.drew = w.drewN q from by obtain ⟨q, e⟩ := HQ.out; exact ⟨q + 1, by rw [e]; rfl⟩)
    generalize wr.drew = wd at HQ2 hHeld ⊢
    refine zp 0 16 ?_; refine zp 1 17 ?_; refine zp 2 18 ?_; refine zp 4 20 ?_; refine zp 5 21 ?_; refine zp 6 22 ?_; refine zp 7 23 ?_; refine zt 3 19 ?_; refine zt 8 24 ?_; refine zp 9 25 ?_
    refine done_ (by kernel_rfl) ?_
    clear HA HST
    go_wp2
    go_roundg (l.length - i)
    case measure => have := HG.out; omega
    case rel => exact ⟨i + 1, by first | rfl | rw [Lb.w64n (by omega)] | go_num, ⟨by omega⟩, ⟨by omega⟩, ⟨by omega⟩, ⟨by rw [HTK.out, show i + 1 - 1 = i from rfl, ← HX.out]; exact HA1.out⟩, HQ2⟩
   have q0_ : (X.f0 = Y.f0) = True := eq_true q0
   by_cases q1 : X.f1 = Y.f1
   case neg =>
    have q1_ : (X.f1 = Y.f1) = False := eq_false q1
    clear q0 q1
    have HA1 := Aside0.mk (HST.out.2 (by simp [q0_, q1_]))
    refine start_ (n := 10) (S := fun W_ => W_.cell? (ad.add (i * 2)) = some (.int .i64 X.f0) ∧ W_.cell? ⟨(ad.add (i * 2)).block, (ad.add (i * 2)).off + 1, none⟩ = some (.int .i64 X.f1) ∧ W_.cell? (ad.add (j1 * 2)) = some (.int .i64 Y.f0) ∧ W_.cell? ⟨(ad.add (j1 * 2)).block, (ad.add (j1 * 2)).off + 1, none⟩ = some (.int .i64 Y.f1)) (ds := []) #[false, false, false, false, false, false, false, false, false, false] (by kernel_rfl) rfl rfl ⟨x0_, x1_, y0_, y1_⟩ (fun hHeld => ?_)
    clear x0_ x1_ y0_ y1_
    have HQ2 := Aside0.mk (show ∃ q, wr.drew = w.drewN q from by obtain ⟨q, e⟩ := HQ.out; exact ⟨q + 1, by rw [e]; rfl⟩)
    generalize wr.drew = wd at HQ2 hHeld ⊢
    refine zp 0 16 ?_; refine zp 1 17 ?_; refine zp 2 18 ?_; refine zp 4 20 ?_; refine zp 5 21 ?_; refine zp 6 22 ?_; refine zp 7 23 ?_; refine zt 3 19 ?_; refine zt 8 24 ?_; refine zp 9 25 ?_
    refine done_ (by kernel_rfl) ?_
    clear HA HST
    go_wp2
    go_roundg (l.length - i)
    case measure => have := HG.out; omega
    case rel => exact ⟨i + 1, by first | rfl | rw [Lb.w64n (by omega)] | go_num, ⟨by omega⟩, ⟨by omega⟩, ⟨by omega⟩, ⟨by rw [HTK.out, show i + 1 - 1 = i from rfl, ← HX.out]; exact HA1.out⟩, HQ2⟩
   have q1_ : (X.f1 = Y.f1) = True := eq_true q1
   have HR1 := Aside0.mk (HST.out.1 (by simp [q0, q1]))
   clear q0 q1 HA HST HTK
   refine start_ (n := 10) (S := fun W_ => W_.cell? (ad.add (i * 2)) = some (.int .i64 X.f0) ∧ W_.cell? ⟨(ad.add (i * 2)).block, (ad.add (i * 2)).off + 1, none⟩ = some (.int .i64 X.f1) ∧ W_.cell? (ad.add (j1 * 2)) = some (.int .i64 Y.f0) ∧ W_.cell? ⟨(ad.add (j1 * 2)).block, (ad.add (j1 * 2)).off + 1, none⟩ = some (.int .i64 Y.f1)) (ds := []) #[false, false, false, false, false, false, false, false, false, false] (by kernel_rfl) rfl rfl ⟨x0_, x1_, y0_, y1_⟩ (fun hHeld => ?_)
   clear x0_ x1_ y0_ y1_
   have HQ2 := Aside0.mk (show ∃ q, wr.drew = w.drewN q from by obtain ⟨q, e⟩ := HQ.out; exact ⟨q + 1, by rw [e]; rfl⟩)
   generalize wr.drew = wd at HQ2 hHeld ⊢
   refine zp 0 16 ?_; refine zp 1 17 ?_; refine zp 2 18 ?_; refine zp 4 20 ?_; refine zp 5 21 ?_; refine zp 6 22 ?_; refine zp 7 23 ?_; refine zt 3 19 ?_; refine zt 8 24 ?_; refine zp 9 25 ?_
   refine done_ (by kernel_rfl) ?_
   go_wp2
   have HI9 := Aside0.mk hlt
   obtain ⟨bd, hbd⟩ : ∃ b, b = ad.add (i * 2) := ⟨_, rfl⟩
   rw [← hbd]
   have HBD := Aside0.mk (show bd = ⟨g, i * 2, none⟩ from by rw [hbd, had.out, addL]; congr 1; omega)
   clear hbd hHeld q0_ q1_ e3 e3' e4 e5 e5' HY
   go_loopg [3, 5] (l.length + 1) (fun gi v3 v5 wt => ∃ (W : List S55) (k j : Nat), v3 = .int .i64 (k : Int) ∧ v5 = .int .i64 (j : Int) ∧ Aside0 (W.length = l.length ∧ 1 ≤ j ∧ j ≤ l.length - i ∧ k + 1 ≤ i + j ∧ l.length - i - j < gi) ∧ Aside0 (W.drop (i + j - 1) = l.drop (i + j - 1)) ∧ Aside0 (r = W.take k ++ cmpA (l.getD (i + j - 1) z55) (l.drop (i + j))) ∧ Aside0 (Kd.R k55 55 wt 0 (fun _ => True) (.slice (some ⟨g, 0, none⟩) l.length cap) W) ∧ Aside0 (w.grownBy wt (some g)))
   case atStart =>
    refine ⟨l, i, 1, rfl, rfl, ⟨by omega⟩, ⟨rfl⟩, ⟨by rw [show i + 1 - 1 = i from rfl, ← HX.out]; exact HR1.out⟩, ?_, ?_⟩
    ·obtain ⟨q, e⟩ := HQ2.out; rw [e]; exact ⟨Kd.R_drewN hg.out q⟩
    obtain ⟨q, e⟩ := HQ2.out; rw [e]; exact ⟨⟨rfl, rfl, rfl, Nat.le_refl _, fun _ _ _ => rfl⟩⟩
   case round =>
    clear HR1 HQ2 HX
    obtain ⟨W, k, j, rfl, rfl, HN, HD, HA, HH, HGr⟩ := hrel
    obtain ⟨n1, n2, n3, n4, n5⟩ := HN.out
    by_cases hjt : i + j < l.length
    ·have e3 : decide ((j : Int) < ((l.length - i : Nat) : Int)) = true := decide_eq_true (by omega)
     have e3' : j < l.length - i := by omega
     have e4 : wrap64 ((j : Int) - 1) = ((j - 1 : Nat) : Int) := by rw [Lb.w64 (by omega) (by omega)]; omega
     have e5 : decide (((j - 1 : Nat) : Int) < ((l.length - i : Nat) : Int)) = true := decide_eq_true (by omega)
     have e5' : j - 1 < l.length - i := by omega
     have e6 : k < l.length := by omega
     obtain ⟨x0_, x1_⟩ := cellW (A := bd.add (j * 2)) HH.out (show i + j < l.length by omega) (by rw [HBD.out, addL]; congr 1; omega)
     obtain ⟨y0_, y1_⟩ := cellW (A := bd.add ((j - 1) * 2)) HH.out (show i + j - 1 < l.length by omega) (by rw [HBD.out, addL]; congr 1; omega)
     obtain ⟨z0_, z1_⟩ := cellW (A := ⟨g, k * 2, none⟩) HH.out (show k < l.length by omega) rfl
     have hst := cmpA_step hjt HA.out
     rw [dropD HD.out (show i + j - 1 ≤ i + j by omega)] at x0_ x1_
     rw [dropD HD.out (Nat.le_refl _)] at y0_ y1_
     obtain ⟨X, hX⟩ : ∃ x, x = l.getD (i + j) z55 := ⟨_, rfl⟩
     obtain ⟨Y, hY⟩ : ∃ x, x = l.getD (i + j - 1) z55 := ⟨_, rfl⟩
     rw [← hX] at x0_ x1_ hst
     rw [← hY] at y0_ y1_ hst
     have HX := Aside0.mk hX
     have HST := Aside0.mk hst
     have HJ := Aside0.mk (show 1 ≤ j from n2)
     clear hX hY hst HA n1 n2 n3 n4 n5
     generalize j - 1 = j1 at e4 e5 e5' y0_ y1_
     generalize W.getD k z55 = Z at z0_ z1_
     go_upto_region 11 with fail
     by_cases q0 : X.f0 = Y.f0
     case neg =>
      have q0_ : (X.f0 = Y.f0) = False := eq_false q0
      have HA1 := Aside0.mk (HST.out.2 (by simp [q0]))
      clear q0 HST
      refine start_ (n := 10) (S := fun W_ => W_.cell? (bd.add (j * 2)) = some (.int .i64 X.f0) ∧ W_.cell? ⟨(bd.add (j * 2)).block, (bd.add (j * 2)).off + 1, none⟩ = some (.int .i64 X.f1) ∧ W_.cell? (bd.add (j1 * 2)) = some (.int .i64 Y.f0) ∧ W_.cell? ⟨(bd.add (j1 * 2)).block, (bd.add (j1 * 2)).off + 1, none⟩ = some (.int .i64 Y.f1)) (ds := []) #[false, false, false, false, false, false, false, false, false, false] (by kernel_rfl) rfl rfl ⟨x0_, x1_, y0_, y1_⟩ (fun hHeld => ?_)
      clear x0_ x1_ y0_ y1_
      replace HH := Aside0.mk (Kd.R_drew HH.out)
      replace HGr := Aside0.mk (show w.grownBy wr.drew (some g) from ⟨HGr.out.os, HGr.out.tape, HGr.out.output, HGr.out.size, HGr.out.block⟩)
      have Z0 := Aside0.mk (show wr.drew.cell? _ = _ from z0_)
      have Z1 := Aside0.mk (show wr.drew.cell? _ = _ from z1_)
      clear z0_ z1_
      generalize wr.drew = wd at HH HGr Z0 Z1 hHeld ⊢
      refine zp 0 35 ?_; refine zp 1 36 ?_; refine zp 2 37 ?_; refine zp 4 39 ?_; refine zp 5 40 ?_; refine zp 6 41 ?_; refine zp 7 42 ?_; refine zt 3 38 ?_; refine zt 8 43 ?_; refine zp 9 44 ?_
      refine done_ (by kernel_rfl) ?_
      have hH0 := hHeld.1
      have hH1 := hHeld.2.1
      have hkl := e6
      clear hHeld
      go_wp2_with ((with_reducible refine gate_store (t := 55) (p := 51) rfl ?_); refine storeP rfl rfl rfl ?sa rfl had.out hkl HH.out Z0.out Z1.out HGr.out ?_; (case sa => rfl); intro w1 hr1 hg1; have HR2 := Aside0.mk hr1; have HG2 := Aside0.mk hg1; clear hr1 hg1)
      go_roundg (l.length - i - j)
      case measure => have := HN.out; omega
      case rel => exact ⟨W.set k X, k + 1, j + 1, by first | rfl | rw [Lb.w64n (by omega)] | go_num, by first | rfl | rw [Lb.w64n (by omega)] | go_num, ⟨by rw [List.length_set]; have := HN.out; omega⟩, ⟨by rw [show i + (j + 1) - 1 = i + j from rfl, List.drop_set_of_lt (by have := HN.out; omega), dropS HD.out (by have := HJ.out; omega)]⟩, ⟨by rw [show i + (j + 1) - 1 = i + j from rfl, ← HX.out, List.take_add_one, List.getElem?_set_self (by have := HN.out; omega), List.take_set_of_le (Nat.le_refl _)]; exact HA1.out⟩, HR2, HG2⟩
     have q0_ : (X.f0 = Y.f0) = True := eq_true q0
     by_cases q1 : X.f1 = Y.f1
     case neg =>
      have q1_ : (X.f1 = Y.f1) = False := eq_false q1
      have HA1 := Aside0.mk (HST.out.2 (by simp [q0, q1]))
      clear q0 q1 HST
      refine start_ (n := 10) (S := fun W_ => W_.cell? (bd.add (j * 2)) = some (.int .i64 X.f0) ∧ W_.cell? ⟨(bd.add (j * 2)).block, (bd.add (j * 2)).off + 1, none⟩ = some (.int .i64 X.f1) ∧ W_.cell? (bd.add (j1 * 2)) = some (.int .i64 Y.f0) ∧ W_.cell? ⟨(bd.add (j1 * 2)).block, (bd.add (j1 * 2)).off + 1, none⟩ = some (.int .i64 Y.f1)) (ds := []) #[false, false, false, false, false, false, false, false, false, false] (by kernel_rfl) rfl rfl ⟨x0_, x1_, y0_, y1_⟩ (fun hHeld => ?_)
      clear x0_ x1_ y0_ y1_
      replace HH := Aside0.mk (Kd.R_drew HH.out)
      replace HGr := Aside0.mk (show w.grownBy wr.drew (some g) from ⟨HGr.out.os, HGr.out.tape, HGr.out.output, HGr.out.size, HGr.out.block⟩)
      have Z0 := Aside0.mk (show wr.drew.cell? _ = _ from z0_)
      have Z1 := Aside0.mk (show wr.drew.cell? _ = _ from z1_)
      clear z0_ z1_
      generalize wr.drew = wd at HH HGr Z0 Z1 hHeld ⊢
      refine zp 0 35 ?_; refine zp 1 36 ?_; refine zp 2 37 ?_; refine zp 4 39 ?_; refine zp 5 40 ?_; refine zp 6 41 ?_; refine zp 7 42 ?_; refine zt 3 38 ?_; refine zt 8 43 ?_; refine zp 9 44 ?_
      refine done_ (by kernel_rfl) ?_
      have hH0 := hHeld.1
      have hH1 := hHeld.2.1
      have hkl := e6
      clear hHeld
      go_wp2_with ((with_reducible refine gate_store (t := 55) (p := 51) rfl ?_); refine storeP rfl rfl rfl ?sa rfl had.out hkl HH.out Z0.out Z1.out HGr.out ?_; (case sa => rfl); intro w1 hr1 hg1; have HR2 := Aside0.mk hr1; have HG2 := Aside0.mk hg1; clear hr1 hg1)
      go_roundg (l.length - i - j)
      case measure => have := HN.out; omega
      case rel => exact ⟨W.set k X, k + 1, j + 1, by first | rfl | rw [Lb.w64n (by omega)] | go_num, by first | rfl | rw [Lb.w64n (by omega)] | go_num, ⟨by rw [List.length_set]; have := HN.out; omega⟩, ⟨by rw [show i + (j + 1) - 1 = i + j from rfl, List.drop_set_of_lt (by have := HN.out; omega), dropS HD.out (by have := HJ.out; omega)]⟩, ⟨by rw [show i + (j + 1) - 1 = i + j from rfl, ← HX.out, List.take_add_one, List.getElem?_set_self (by have := HN.out; omega), List.take_set_of_le (Nat.le_refl _)]; exact HA1.out⟩, HR2, HG2⟩
     have q1_ : (X.f1 = Y.f1) = True := eq_true q1
     have HA1 := Aside0.mk (HST.out.1 (by simp [q0, q1]))
     clear q0 q1 HST
     refine start_ (n := 10) (S := fun W_ => W_.cell? (bd.add (j * 2)) = some (.int .i64 X.f0) ∧ W_.cell? ⟨(bd.add (j * 2)).block, (bd.add (j * 2)).off + 1, none⟩ = some (.int .i64 X.f1) ∧ W_.cell? (bd.add (j1 * 2)) = some (.int .i64 Y.f0) ∧ W_.cell? ⟨(bd.add (j1 * 2)).block, (bd.add (j1 * 2)).off + 1, none⟩ = some (.int .i64 Y.f1)) (ds := []) #[false, false, false, false, false, false, false, false, false, false] (by kernel_rfl) rfl rfl ⟨x0_, x1_, y0_, y1_⟩ (fun hHeld => ?_)
     clear x0_ x1_ y0_ y1_
     replace HH := Aside0.mk (Kd.R_drew HH.out)
     replace HGr := Aside0.mk (show w.grownBy wr.drew (some g) from ⟨HGr.out.os, HGr.out.tape, HGr.out.output, HGr.out.size, HGr.out.block⟩)
     clear z0_ z1_
     generalize wr.drew = wd at HH HGr hHeld ⊢
     refine zp 0 35 ?_; refine zp 1 36 ?_; refine zp 2 37 ?_; refine zp 4 39 ?_; refine zp 5 40 ?_; refine zp 6 41 ?_; refine zp 7 42 ?_; refine zt 3 38 ?_; refine zt 8 43 ?_; refine zp 9 44 ?_
     refine done_ (by kernel_rfl) ?_
     go_wp2
     go_roundg (l.length - i - j)
     case measure => have := HN.out; omega
     case rel => exact ⟨W, k, j + 1, rfl, by first | rfl | rw [Lb.w64n (by omega)] | go_num, ⟨by have := HN.out; omega⟩, ⟨by rw [show i + (j + 1) - 1 = i + j from rfl, dropS HD.out (by have := HJ.out; omega)]⟩, ⟨by rw [show i + (j + 1) - 1 = i + j from rfl, ← HX.out]; exact HA1.out⟩, HH, HGr⟩
    have e3 : decide ((j : Int) < ((l.length - i : Nat) : Int)) = false := decide_eq_false (by omega)
    have e3' : ¬ j < l.length - i := by omega
    have e6 : k < l.length := by omega
    have e6' : decide ((k : Int) ≤ (l.length : Int)) = true := decide_eq_true (by omega)
    have e7 : decide (k ≤ l.length) = true := decide_eq_true (by omega)
    have e8 : k ≤ l.length := by omega
    have e9 : k ≤ cap := by omega
    have e10 : ¬ cap = k := by omega
    have er : r = W.take k := by rw [HA.out, List.drop_eq_nil_of_le (by omega)]; simp [cmpA]
    have HE := Aside0.mk er
    obtain ⟨z, hz⟩ : ∃ z : Value, z = .agg #[.int .i64 0, .int .i64 0] := ⟨_, rfl⟩
    obtain ⟨i0, hi0, hz0, hzs, hzb⟩ := info_parts info55
    have hzv : ∀ w, (zeroValue 55).run Tryz.prog w = .ok z w := by
     intro w
     rw [hz]
     simp [zeroValue, typeInfo, hi0, hz0]
    obtain ⟨ZC, hZC⟩ : ∃ ZC, ZC = (Builtin.zeroCells z.cells (l.length - k)).toList := ⟨_, rfl⟩
    have lZC : ZC.length = (l.length - k) * 2 := by rw [hZC, hz]; simp [Builtin.zeroCells, Value.cells]
    have oZ : ∀ v ∈ ZC, v.oneCell' = true := by
     intro v hv
     rw [hZC, hz] at hv
     simp [Builtin.zeroCells, Value.cells] at hv
     obtain ⟨q, _, rfl⟩ := hv
     rcases Nat.mod_two_eq_zero_or_one q with h | h <;> simp [h, Value.oneCell']
    rcases Li.own_open (enc := encC) (fun w base ok x c hk => k55_openM hk) HH.out with ⟨hq, _⟩ | ⟨g', cap', sp, ev, hb, hok, hgh, hnn, hmm, hss⟩
    ·cases hq
    injection ev with ev1 ev2 ev3
    injection ev1 with ev1
    injection ev1 with ev1
    subst ev1 ev3
    have EV2 := Aside0.mk ev2
    clear ev2
    have hss' : (W.flatMap encC ++ sp).length = cap * 2 := hss
    have hgi : ∀ q, q < cap * 2 → (wr.cell? ⟨g, q, none⟩).isSome = true ∧ wr.frozen? ⟨g, q, none⟩ = false := by
     intro q hq
     refine ⟨?_, by simp [World.frozen?, hgh]⟩
     simp only [World.cell?, hgh]
     rw [Array.getElem?_eq_getElem (by rw [List.size_toArray]; omega)]
     rfl
    have hcl : ∀ ty, (Builtin.clear_ #[35] ty #[.slice (some (ad.add (k * 2))) (l.length - k) (cap - k)]).run Tryz.prog wr = .ok (.tuple #[]) (wr.setCells g (k * 2) ZC) := by
     intro ty
     rw [had.out, addL, Nat.zero_add]
     exact Li.run_clearK wr _ _ ty z hu35 hzv g _ _ _ ZC hZC.symm (by omega) (fun q hq => (hgi _ (by omega)).1) (fun q hq => (hgi _ (by omega)).2) oZ
    have hfin := Li.setCells_eq_setRow (w := wr) (P := Tryz.prog) g 55 (k * 2) ZC _ hgh (by rw [List.size_toArray]; omega) oZ
    obtain ⟨WF, hWF⟩ : ∃ u, u = wr.setCells g (k * 2) ZC := ⟨_, rfl⟩
    rw [← hWF] at hcl hfin
    have HF := Aside0.mk hfin
    have HGH := Aside0.mk hgh
    have HLZ := Aside0.mk lZC
    have HSS := Aside0.mk hss'
    clear hnn hmm hb hok hWF hfin hgh lZC hss hss' hgi hZC hz oZ hzv hz0 hzs hzb hi0 er
    go_wp2
    go_ret
    have hW := HN.out.1
    have hk2 : (W.take k).length = k := by rw [List.length_take]; omega
    rw [HE.out, hk2]
    refine ⟨rfl, ?_, ?_⟩
    ·have hh : WF.heap[g]? = some (.cells ((W.take k).flatMap encC ++ (ZC ++ ((W.flatMap encC ++ sp).drop (k * 2 + ZC.length)))).toArray 55 (0, 0)) := by
      rw [HF.out, setRow_heap _ _ _ _ _ _ HGH.out]
      have e1 : (W.flatMap encC ++ sp).take (k * 2) = (W.take k).flatMap encC := by
       conv => lhs; rw [← List.take_append_drop k W, List.flatMap_append, List.append_assoc]
       rw [List.take_append_of_le_length (by rw [encC_len, hk2]; omega), List.take_of_length_le (by rw [encC_len, hk2]; omega)]
      simp only [List.toList_toArray, e1, List.append_assoc]
     have hR := Li.own_shut (enc := encC) (d := k55) (e := 55) (base := 0) (ok := fun _ => True) (xs := W.take k) (cap := cap) (fun w base ok x => k55_mkM w base ok x) (fun _ => rfl) (Nat.zero_le g) trivial hh (by rw [hk2]; omega) hm (by have := HSS.out; have := HLZ.out; simp only [List.length_append, List.length_drop, encC_len, hk2] at *; show _ = cap * 2; omega)
     rw [hk2] at hR
     exact hR
    rw [HF.out]
    exact ⟨HGr.out.os, HGr.out.tape, HGr.out.output, by rw [setRow_size]; exact HGr.out.size, fun q hq hn => by rw [setRow_other _ _ _ _ (fun e => hn (by rw [e]))]; exact HGr.out.block q hq hn⟩
  have e3 : decide ((i : Int) < (l.length : Int)) = false := decide_eq_false (by omega)
  have e3' : decide (i < l.length) = false := decide_eq_false hlt
  go_wp2
  go_ret
  have e : r = l := by
   have := HI.out
   rw [HA.out, List.drop_eq_nil_of_le (by omega), List.take_of_length_le (by omega)]
   simp [cmpA]
  rw [e]
  obtain ⟨q, e9⟩ := HQ.out
  rw [e9]
  exact ⟨rfl, hg.out, ⟨rfl, rfl, rfl, Nat.le_refl _, fun _ _ _ => rfl⟩⟩
set_option maxHeartbeats 1000000 in
theorem slices_Compact_impl_Pair.calls (P0_ : Nat → Prop) (u9000_ : Value) (l0 : List S55) (r : List S55) (w0 w : World) (hB : Below w0.heap.size w0 w) (ho0 : Kd.R k55 55 w w0.heap.size P0_ u9000_ l0) (h : slices_Compact_impl_Pair.f l0 = some r) :
 Calls Tryz.prog 73 #[u9000_] w fun e w' => ∃ v0_ : Value, e = .returned (v0_) ∧ Kd.R k55 55 w' w0.heap.size (fun k_ => (P0_ k_ ∨ w.heap.size ≤ k_)) v0_ r ∧ Below w0.heap.size w0 w' ∧ Kept w w' (fun k_ => P0_ k_) := by
 have h := Option.some.inj h
 subst h
 rcases Li.own_open (enc := encC) (fun w base ok x c hk => k55_openM hk) ho0 with ⟨rfl, rfl⟩ | ⟨g, cap, sp, rfl, hb, hok, hg, hn, hc, hs⟩
 ·clear ho0
  have HB := Aside0.mk hB
  clear hB
  go_enter Tryz.func73, Tryz.ntmps73
  go_wp2
  go_ret
  exact ⟨_, rfl, Kd.R_nil _ _ _ _ _, HB.out, Kept.refl _ _⟩
 refine (compact_core ⟨g, 0, none⟩ g cap l0 w ⟨rfl⟩ ⟨Kd.R_lower (Kd.R_mono ho0 (fun _ _ => trivial)) (Nat.zero_le _)⟩ hn hc).mono ?_
 rintro e w' ⟨rfl, hr, hgb⟩
 refine ⟨_, rfl, ?_, hB.grown hgb hB.size (fun k hk => by cases hk; exact hb), ⟨hgb.size, fun k hk hS => hgb.block k hk (fun e => hS (by cases e; exact hok))⟩⟩
 rcases Li.own_open (enc := encC) (fun w base ok x c hk => k55_openM hk) hr with ⟨hq, _⟩ | ⟨g', cap', sp', ev, hb', hok', hg', hn', hc', hs'⟩
 ·cases hq
 injection ev with ev1 ev2 ev3
 injection ev1 with ev1
 injection ev1 with ev1
 subst ev1 ev3
 exact Li.own_shut (enc := encC) (d := k55) (e := 55) (fun w base ok x => k55_mkM w base ok x) (fun _ => rfl) hb (.inl hok) hg' hn' hc' hs'
set_option maxHeartbeats 8000000 in
set_option maxRecDepth 100000 in
theorem impl_Engine_pairs.calls (k : Nat) (a0_0 : Int) (a0_1 : Int) (A0_2 : Option Addr) (c0_2 : Nat) (l0_2 : List (S84)) (A0_3 : Option Addr) (c0_3 : Nat) (l0_3 : List (S87)) (r : List (S55)) (w : World) (hr0_2 : Kd.C k84 w A0_2 l0_2.length l0_2) (hc0_2 : l0_2.length ≤ c0_2) (hr0_3 : Kd.C k87 w A0_3 l0_3.length l0_3) (hc0_3 : l0_3.length ≤ c0_3) (h : impl_Engine_pairs.f k a0_0 a0_1 l0_2 l0_3 = some r) :
 Calls Tryz.prog 31 #[.agg #[.int .i64 a0_0, .int .i64 a0_1, .slice A0_2 l0_2.length c0_2, .slice A0_3 l0_3.length c0_3]] w fun e w' => ∃ v0_ : Value, e = .returned (v0_) ∧ Kd.R k55 55 w' w.heap.size (fun _ => True) v0_ r ∧ Below w.heap.size w w' := by
 have hu33 := Tryz.underlying33
 have hu87 := Tryz.underlying87
 have hu89 := Tryz.underlying89
 have hu55 := Tryz.underlying55
 have HR0_2 := Aside0.mk hr0_2
 have HC0_2 := Aside0.mk hc0_2
 clear hr0_2 hc0_2
 have HR0_3 := Aside0.mk hr0_3
 have HC0_3 := Aside0.mk hc0_3
 clear hr0_3 hc0_3
 have HB := Aside0.mk (Below.refl w.heap.size w)
 have H : (impl_Engine_pairs.l0 k (([] : List (S55))) l0_3 (l0_3.length : Int) 0) = some r := h
 clear h
 obtain ⟨y42, hy42⟩ : ∃ y_ : List (S55), y_ = (([] : List (S55))) := ⟨_, rfl⟩
 replace H : (impl_Engine_pairs.l0 k y42 l0_3 (l0_3.length : Int) 0) = some r := by first | (rw [hy42]; with_reducible exact H) | (have H2_ := (Option.bind_some _ _).symm.trans H; rw [hy42]; with_reducible exact H2_) | (have H2_ := (Option.bind_some _ _).symm.trans H; with_reducible exact H2_) | with_reducible exact H | (rw [hy42]; exact H) | exact H
 have Ny42 := Aside0.mk hy42
 clear hy42
 have H' := Aside0.mk H
 clear H
 go_enter Tryz.func31, Tryz.ntmps31
 go_wp2_with (first | ((with_reducible refine gate_dst (N := 1) rfl ?_); refine box_event ?hg (N := 1) ?hd (cs := #[.int .i64 a0_0, .int .i64 a0_1, .slice A0_2 l0_2.length c0_2, .slice A0_3 l0_3.length c0_3]) (t := 33) ?hr ?_; (case hd => rfl); (case hg => rfl); (case hr => first | (go_simp; done) | (go_simp; rfl)); intro gb34 hg w2 hbox hb; have n0_ := Aside0.mk (below_step zb hb); have n1_ := Aside0.mk (hbox); have n2_ := Aside0.mk ((by rw [hg]; exact (below_size zb) : w.heap.size ≤ gb34)); have n3_ := n2_; clear HB; have HB := n0_; have BK34 := n1_; have GW34 := n2_; have GE34 := n3_; clear n0_ n1_ n2_ n3_; clear hb hbox hg) | ((with_reducible refine gate_dst (N := 8) rfl ?_); refine Kd.R_lit k55 _ 55 ?hg (N := 8) ?hd (xs := ([] : List (S55))) (inner := []) (ok := fun _ => True) (okp := fun _ => True) ?hr ?hp (fun _ hk => hk) trivial (Below.refl _ _) (Nat.le_refl _) (by simp) ?_; (case hd => rfl); (case hg => rfl); (case hr => first | (go_simp; done) | (go_simp; rfl)); (case hp => exact (Reps.none _ _)); intro v51 w3 ho4 hb hg_ hnew_; clear hg_ hnew_; (first | rw [← Ny42.out] at ho4 | (simp only [Int.reduceToNat] at ho4; rw [← Ny42.out] at ho4)); have n0_ := Aside0.mk (Kd.R_lower ho4 (below_size zb)); have n1_ := Aside0.mk (blk_below (g := gb34) (o := .cells #[.int .i64 a0_0, .int .i64 a0_1, .slice A0_2 l0_2.length c0_2, .slice A0_3 l0_3.length c0_3] 33 (0, 0)) zk hb); have n2_ := Aside0.mk (below_step zb hb); clear BK34; clear HB; have HO48 := n0_; have BK34 := n1_; have HB := n2_; clear n0_ n1_ n2_; clear hb ho4; obtain ⟨hcz5_0, hcz5_1, hcz5_2, hcz5_3, hfz5_0, hfz5_1, hfz5_2, hfz5_3⟩ := Go.Proofs.YtocdahbinombkaaGreat.Lv.blks4 BK34.out))
 go_loopg [3, 12] k (fun kq v3 v12 w' => ∃ (x3_1 : List (S55)) (x12_1 : Int), v12 = .int .i64 x12_1 ∧ Aside0 (impl_Engine_pairs.l0 kq x3_1 l0_3 (l0_3.length : Int) x12_1 = some r) ∧ Aside0 (kq ≤ k) ∧ Aside0 (Kd.R k55 55 w' w.heap.size (fun _ => True) v3 x3_1) ∧ Aside0 (w'.heap[gb34]? = some (.cells #[.int .i64 a0_0, .int .i64 a0_1, (.slice A0_2 l0_2.length c0_2), (.slice A0_3 l0_3.length c0_3)] 33 (0, 0))) ∧ Aside0 (Below w.heap.size w w'))
 case atStart => exact ⟨(y42), (0), zs, H', ⟨Nat.le_refl _⟩, ⟨by (with_reducible repeat (first | apply Kd.R_alloc | apply Kd.R_drewN | apply Kd.R_drew)); exact HO48.out⟩, ⟨by (with_reducible repeat (first | refine blk_drewN ?_ _ | refine blk_drew ?_ | refine blk_alloc ?_ _)); exact BK34.out⟩, ⟨zb⟩⟩
 case round =>
  clear H'
  try clear p2
  try clear c3
  try clear hcz5_0 hcz5_1 hcz5_2 hcz5_3 hfz5_0 hfz5_1 hfz5_2 hfz5_3
  obtain ⟨x3_1, x12_1, rfl, HA, HK1, HO_3, BK34, HB⟩ := hrel
  cases gk with
  | zero => exact absurd HA.out (by simp [impl_Engine_pairs.l0])
  | succ k1 =>
   have H := HA.out
   clear HA
   simp only [impl_Engine_pairs.l0] at H
   by_cases c6 : x12_1 < (l0_3.length : Int)
   ·rw [if_pos c6] at H
    have c6b0 : decide (x12_1 < (l0_3.length : Int)) = true := decide_eq_true c6
    clear c6
    by_cases c7 : 0 ≤ x12_1
    ·rw [if_pos c7] at H
     have c7b0 : decide (0 ≤ x12_1) = true := decide_eq_true c7
     clear c7
     by_cases c8 : x12_1 < (l0_3.length : Int)
     ·rw [if_pos c8] at H
      have c8b0 : decide (x12_1 < (l0_3.length : Int)) = true := decide_eq_true c8
      clear c8
      have H' := Aside0.mk H
      clear H
      have p321 : 0 ≤ (x12_1 : Int) := of_decide_eq_true za
      have q40 : x12_1 < (l0_3.length : Int) := of_decide_eq_true za
      obtain ⟨ad40, A40_1, c40_1, e321, hx40_0, hx40_1, hl40_1, hi321_1⟩ := at_T87 HR0_3.out x12_1 p321 q40
      cases e321
      replace hx40_0 := zx HB hx40_0
      replace hx40_1 := zx HB hx40_1
      have HR321_1 := Aside0.mk hi321_1
      have HC321_1 := Aside0.mk hl40_1
      clear hi321_1 hl40_1
      replace p321 := eq_true p321
      replace q40 := eq_true q40
      go_wp2_with (first | ((with_reducible refine gate_dst (N := 5) rfl ?_); refine box_event ?hg (N := 5) ?hd (cs := #[.int .i64 0, .slice none 0 0]) (t := 87) ?hr ?_; (case hd => rfl); (case hg => rfl); (case hr => first | (go_simp; done) | (go_simp; rfl)); intro gb36 hg w9 hbox hb; have n0_ := Aside0.mk (Kd.R_below (by (with_reducible repeat (first | apply Kd.R_alloc | apply Kd.R_drewN | apply Kd.R_drew)); exact HO_3.out) hb); have n1_ := Aside0.mk (blk_below (g := gb34) (o := .cells #[.int .i64 a0_0, .int .i64 a0_1, .slice A0_2 l0_2.length c0_2, .slice (some ad40) l0_3.length c0_3] 33 (0, 0)) zk hb); have n2_ := Aside0.mk (below_step zb hb); have n3_ := Aside0.mk (hbox); have n4_ := Aside0.mk ((by rw [hg]; exact (below_size zb) : w.heap.size ≤ gb36)); have n5_ := n4_; have n6_ := Aside0.mk ((by rw [hg]; exact Nat.ne_of_lt (blk_lt (g := gb34) (o := .cells #[.int .i64 a0_0, .int .i64 a0_1, .slice A0_2 l0_2.length c0_2, .slice (some ad40) l0_3.length c0_3] 33 (0, 0)) zk) : gb34 ≠ gb36)); have n7_ := Aside0.mk ((by rw [hg]; exact Nat.ne_of_gt (blk_lt (g := gb34) (o := .cells #[.int .i64 a0_0, .int .i64 a0_1, .slice A0_2 l0_2.length c0_2, .slice (some ad40) l0_3.length c0_3] 33 (0, 0)) zk) : gb36 ≠ gb34)); clear HO_3; clear BK34; clear HB; have HO_3 := n0_; have BK34 := n1_; have HB := n2_; have BK36 := n3_; have GW36 := n4_; have GE36 := n5_; have NB313_322 := n6_; have NB322_313 := n7_; clear n0_ n1_ n2_ n3_ n4_ n5_ n6_ n7_; clear hb hbox hg; have hnb10 := NB322_313.out; have hnc10 := NB313_322.out; obtain ⟨hcz11_0, hcz11_1, hfz11_0, hfz11_1⟩ := Go.Proofs.YtocdahbinombkaaGreat.Lv.blks2 BK36.out))
      go_loopg [3, 19] k1 (fun kq v3 v19 w' => ∃ (x3_2 : List (S55)) (x19_2 : Int), v19 = .int .i64 x19_2 ∧ Aside0 (impl_Engine_pairs.l1 kq x3_2 l0_3 (l0_3.length : Int) x12_1 ((rd_T87 l0_3 x12_1).f1) (((rd_T87 l0_3 x12_1).f1).length : Int) x19_2 ((rd_T87 l0_3 x12_1).f0) ((rd_T87 l0_3 x12_1).f1) = some r) ∧ Aside0 (kq ≤ k1) ∧ Aside0 (Kd.R k55 55 w' w.heap.size (fun _ => True) v3 x3_2) ∧ Aside0 (w'.heap[gb34]? = some (.cells #[.int .i64 a0_0, .int .i64 a0_1, (.slice A0_2 l0_2.length c0_2), (.slice (some ad40) l0_3.length c0_3)] 33 (0, 0))) ∧ Aside0 (w'.heap[gb36]? = some (.cells #[.int .i64 ((rd_T87 l0_3 x12_1).f0), (.slice A40_1 ((rd_T87 l0_3 x12_1).f1).length c40_1)] 87 (0, 0))) ∧ Aside0 (Below w.heap.size w w'))
      case atStart => exact ⟨(x3_1), (0), zs, H', ⟨Nat.le_refl _⟩, ⟨by (with_reducible repeat (first | apply Kd.R_alloc | apply Kd.R_drewN | apply Kd.R_drew)); exact Kd.R_mono (Kd.R_far (p := ⟨gb36, 1, none⟩) (Kd.R_far (p := ⟨gb36, 0, none⟩) (Kd.R_types HO_3.out BK36.out (by decide)) (fun _ hk => hk.2) (.int .i64 ((rd_T87 l0_3 x12_1).f0))) (fun _ hk => hk.2) (.slice A40_1 ((rd_T87 l0_3 x12_1).f1).length c40_1)) (fun _ hk => trivial)⟩, ⟨by (with_reducible repeat (first | refine blk_drewN ?_ _ | refine blk_drew ?_ | refine blk_alloc ?_ _)); refine blk_far ?_ NB313_322.out _; (with_reducible repeat (first | refine blk_drewN ?_ _ | refine blk_drew ?_ | refine blk_alloc ?_ _)); refine blk_far ?_ NB313_322.out _; (with_reducible repeat (first | refine blk_drewN ?_ _ | refine blk_drew ?_ | refine blk_alloc ?_ _)); exact BK34.out⟩, ⟨by (with_reducible repeat (first | refine blk_drewN ?_ _ | refine blk_drew ?_ | refine blk_alloc ?_ _)); refine blk_put (cs := #[.int .i64 ((rd_T87 l0_3 x12_1).f0), .slice none 0 0]) ?_ 1 _ rfl; (with_reducible repeat (first | refine blk_drewN ?_ _ | refine blk_drew ?_ | refine blk_alloc ?_ _)); refine blk_put (cs := #[.int .i64 0, .slice none 0 0]) ?_ 0 _ rfl; (with_reducible repeat (first | refine blk_drewN ?_ _ | refine blk_drew ?_ | refine blk_alloc ?_ _)); exact BK36.out⟩, ⟨zb⟩⟩
      case round =>
       clear H'
       try clear c1
       try clear p2
       try clear c3
       try clear p3
       try clear q3
       try clear hx3
       try clear c6
       try clear c6b0
       try clear c7
       try clear c7b0
       try clear c8
       try clear c8b0
       try clear c10
       try clear hcz11_0 hcz11_1
       try clear hcz5_0 hcz5_1 hcz5_2 hcz5_3
       try clear hfz11_0 hfz11_1
       try clear hfz5_0 hfz5_1 hfz5_2 hfz5_3
       try clear hx40_0
       try clear hx40_1
       try clear p2
       try clear p321
       try clear q40
       obtain ⟨x3_2, x19_2, rfl, HA, HK2, HO_3, BK34, BK36, HB⟩ := hrel
       cases gk with
       | zero => exact absurd HA.out (by simp [impl_Engine_pairs.l1])
       | succ k2 =>
        have H := HA.out
        clear HA
        simp only [impl_Engine_pairs.l1] at H
        by_cases c12 : x19_2 < (((rd_T87 l0_3 x12_1).f1).length : Int)
        ·rw [if_pos c12] at H
         have c12b0 : decide (x19_2 < (((rd_T87 l0_3 x12_1).f1).length : Int)) = true := decide_eq_true c12
         clear c12
         by_cases c13 : 0 ≤ x19_2
         ·rw [if_pos c13] at H
          have c13b0 : decide (0 ≤ x19_2) = true := decide_eq_true c13
          clear c13
          by_cases c14 : x19_2 < (((rd_T87 l0_3 x12_1).f1).length : Int)
          ·rw [if_pos c14] at H
           have c14b0 : decide (x19_2 < (((rd_T87 l0_3 x12_1).f1).length : Int)) = true := decide_eq_true c14
           clear c14
           obtain ⟨bq15, hbq15⟩ : ∃ b_ : Bool, b_ = ((rd_T89 ((rd_T87 l0_3 x12_1).f1) x19_2).f2) := ⟨_, rfl⟩
           replace H : (if (bq15 = true) then (impl_Engine_pairs.l1 k2 x3_2 l0_3 (l0_3.length : Int) x12_1 ((rd_T87 l0_3 x12_1).f1) (((rd_T87 l0_3 x12_1).f1).length : Int) (wrap64 (x19_2 + 1)) ((rd_T87 l0_3 x12_1).f0) ((rd_T87 l0_3 x12_1).f1)) else (if x3_2.length < 8796093022208 then (impl_Engine_pairs.l1 k2 (x3_2 ++ [(⟨(rd_T89 ((rd_T87 l0_3 x12_1).f1) x19_2).f3, ((rd_T87 l0_3 x12_1).f0)⟩ : S55)]) l0_3 (l0_3.length : Int) x12_1 ((rd_T87 l0_3 x12_1).f1) (((rd_T87 l0_3 x12_1).f1).length : Int) (wrap64 (x19_2 + 1)) ((rd_T87 l0_3 x12_1).f0) ((rd_T87 l0_3 x12_1).f1)) else (none))) = some r := by rw [← hbq15] at H; exact H
           have Nbq15 := Aside0.mk hbq15
           clear hbq15
           by_cases c16 : (bq15 = true)
           ·subst c16
            have H1 : (impl_Engine_pairs.l1 k2 x3_2 l0_3 (l0_3.length : Int) x12_1 ((rd_T87 l0_3 x12_1).f1) (((rd_T87 l0_3 x12_1).f1).length : Int) (wrap64 (x19_2 + 1)) ((rd_T87 l0_3 x12_1).f0) ((rd_T87 l0_3 x12_1).f1)) = some r := by rw [if_pos rfl] at H; exact H
            clear H
            have H := H1
            clear H1
            have H' := Aside0.mk H
            clear H
            have p323 : 0 ≤ (x19_2 : Int) := of_decide_eq_true za
            have q38 : x19_2 < (((rd_T87 l0_3 x12_1).f1).length : Int) := of_decide_eq_true za
            obtain ⟨ad38, e323, hx38_0, hx38_1, hx38_2, hx38_3⟩ := at_T89 HR321_1.out x19_2 p323 q38
            (try rw [← Nbq15.out] at hx38_2)
            cases e323
            replace hx38_0 := zx HB hx38_0
            replace hx38_1 := zx HB hx38_1
            replace hx38_2 := zx HB hx38_2
            replace hx38_3 := zx HB hx38_3
            replace p323 := eq_true p323
            replace q38 := eq_true q38
            go_wp2_with (first | ((with_reducible refine gate_dst (N := 7) rfl ?_); refine box_event ?hg (N := 7) ?hd (cs := #[.int .i64 0, .int .i64 0, .bool false, .int .i64 0]) (t := 89) ?hr ?_; (case hd => rfl); (case hg => rfl); (case hr => first | (go_simp; done) | (go_simp; rfl)); intro gb41 hg w17 hbox hb; have n0_ := Aside0.mk (Kd.R_below (by (with_reducible repeat (first | apply Kd.R_alloc | apply Kd.R_drewN | apply Kd.R_drew)); exact HO_3.out) hb); have n1_ := Aside0.mk (blk_below (g := gb34) (o := .cells #[.int .i64 a0_0, .int .i64 a0_1, .slice A0_2 l0_2.length c0_2, .slice (some ad40) l0_3.length c0_3] 33 (0, 0)) zk hb); have n2_ := Aside0.mk (blk_below (g := gb36) (o := .cells #[.int .i64 ((rd_T87 l0_3 x12_1).f0), .slice (some ad38) ((rd_T87 l0_3 x12_1).f1).length c40_1] 87 (0, 0)) zk hb); have n3_ := Aside0.mk (below_step zb hb); have n4_ := Aside0.mk (hbox); have n5_ := Aside0.mk ((by rw [hg]; exact (below_size zb) : w.heap.size ≤ gb41)); have n6_ := n5_; have n7_ := Aside0.mk ((by rw [hg]; exact Nat.ne_of_lt (blk_lt (g := gb34) (o := .cells #[.int .i64 a0_0, .int .i64 a0_1, .slice A0_2 l0_2.length c0_2, .slice (some ad40) l0_3.length c0_3] 33 (0, 0)) zk) : gb34 ≠ gb41)); have n8_ := Aside0.mk ((by rw [hg]; exact Nat.ne_of_gt (blk_lt (g := gb34) (o := .cells #[.int .i64 a0_0, .int .i64 a0_1, .slice A0_2 l0_2.length c0_2, .slice (some ad40) l0_3.length c0_3] 33 (0, 0)) zk) : gb41 ≠ gb34)); have n9_ := Aside0.mk ((by rw [hg]; exact Nat.ne_of_lt (blk_lt (g := gb36) (o := .cells #[.int .i64 ((rd_T87 l0_3 x12_1).f0), .slice (some ad38) ((rd_T87 l0_3 x12_1).f1).length c40_1] 87 (0, 0)) zk) : gb36 ≠ gb41)); have n10_ := Aside0.mk ((by rw [hg]; exact Nat.ne_of_gt (blk_lt (g := gb36) (o := .cells #[.int .i64 ((rd_T87 l0_3 x12_1).f0), .slice (some ad38) ((rd_T87 l0_3 x12_1).f1).length c40_1] 87 (0, 0)) zk) : gb41 ≠ gb36)); clear HO_3; clear BK34; clear BK36; clear HB; have HO_3 := n0_; have BK34 := n1_; have BK36 := n2_; have HB := n3_; have BK41 := n4_; have GW41 := n5_; have GE41 := n6_; have NB313_324 := n7_; have NB324_313 := n8_; have NB322_324 := n9_; have NB324_322 := n10_; clear n0_ n1_ n2_ n3_ n4_ n5_ n6_ n7_ n8_ n9_ n10_; clear hb hbox hg; have hnb18 := NB324_313.out; have hnc18 := NB313_324.out; have hnb19 := NB324_322.out; have hnc19 := NB322_324.out; obtain ⟨hcz20_0, hcz20_1, hcz20_2, hcz20_3, hfz20_0, hfz20_1, hfz20_2, hfz20_3⟩ := Go.Proofs.YtocdahbinombkaaGreat.Lv.blks4 BK41.out))
            go_roundg k2
            case measure => have := HK1.out; have := HK2.out; omega
            case rel => exact ⟨(x3_2), (wrap64 (x19_2 + 1)), zs, H', ⟨by have := HK1.out; have := HK2.out; omega⟩, ⟨by (with_reducible repeat (first | apply Kd.R_alloc | apply Kd.R_drewN | apply Kd.R_drew)); exact Kd.R_mono (Kd.R_far (p := ⟨gb41, 3, none⟩) (Kd.R_far (p := ⟨gb41, 2, none⟩) (Kd.R_far (p := ⟨gb41, 1, none⟩) (Kd.R_far (p := ⟨gb41, 0, none⟩) (Kd.R_types HO_3.out BK41.out (by decide)) (fun _ hk => hk.2) (.int .i64 ((rd_T89 ((rd_T87 l0_3 x12_1).f1) x19_2).f0))) (fun _ hk => hk.2) (.int .i64 ((rd_T89 ((rd_T87 l0_3 x12_1).f1) x19_2).f1))) (fun _ hk => hk.2) (.bool true)) (fun _ hk => hk.2) (.int .i64 ((rd_T89 ((rd_T87 l0_3 x12_1).f1) x19_2).f3))) (fun _ hk => trivial)⟩, ⟨by (with_reducible repeat (first | refine blk_drewN ?_ _ | refine blk_drew ?_ | refine blk_alloc ?_ _)); refine blk_far ?_ NB313_324.out _; (with_reducible repeat (first | refine blk_drewN ?_ _ | refine blk_drew ?_ | refine blk_alloc ?_ _)); refine blk_far ?_ NB313_324.out _; (with_reducible repeat (first | refine blk_drewN ?_ _ | refine blk_drew ?_ | refine blk_alloc ?_ _)); refine blk_far ?_ NB313_324.out _; (with_reducible repeat (first | refine blk_drewN ?_ _ | refine blk_drew ?_ | refine blk_alloc ?_ _)); refine blk_far ?_ NB313_324.out _; (with_reducible repeat (first | refine blk_drewN ?_ _ | refine blk_drew ?_ | refine blk_alloc ?_ _)); exact BK34.out⟩, ⟨by (with_reducible repeat (first | refine blk_drewN ?_ _ | refine blk_drew ?_ | refine blk_alloc ?_ _)); refine blk_far ?_ NB322_324.out _; (with_reducible repeat (first | refine blk_drewN ?_ _ | refine blk_drew ?_ | refine blk_alloc ?_ _)); refine blk_far ?_ NB322_324.out _; (with_reducible repeat (first | refine blk_drewN ?_ _ | refine blk_drew ?_ | refine blk_alloc ?_ _)); refine blk_far ?_ NB322_324.out _; (with_reducible repeat (first | refine blk_drewN ?_ _ | refine blk_drew ?_ | refine blk_alloc ?_ _)); refine blk_far ?_ NB322_324.out _; (with_reducible repeat (first | refine blk_drewN ?_ _ | refine blk_drew ?_ | refine blk_alloc ?_ _)); exact BK36.out⟩, ⟨zb⟩⟩
           replace c16 := Bool.eq_false_iff.mpr c16
           subst c16
           have H1 : (if x3_2.length < 8796093022208 then (impl_Engine_pairs.l1 k2 (x3_2 ++ [(⟨(rd_T89 ((rd_T87 l0_3 x12_1).f1) x19_2).f3, ((rd_T87 l0_3 x12_1).f0)⟩ : S55)]) l0_3 (l0_3.length : Int) x12_1 ((rd_T87 l0_3 x12_1).f1) (((rd_T87 l0_3 x12_1).f1).length : Int) (wrap64 (x19_2 + 1)) ((rd_T87 l0_3 x12_1).f0) ((rd_T87 l0_3 x12_1).f1)) else (none)) = some r := by rw [if_neg (show ¬ (false = true) by decide)] at H; exact H
           clear H
           have H := H1
           clear H1
           by_cases c21 : x3_2.length < 8796093022208
           ·rw [if_pos c21] at H
            have LMc21 := Aside0.mk c21
            clear c21
            obtain ⟨y43, hy43⟩ : ∃ y_ : List (S55), y_ = (x3_2 ++ [(⟨(rd_T89 ((rd_T87 l0_3 x12_1).f1) x19_2).f3, ((rd_T87 l0_3 x12_1).f0)⟩ : S55)]) := ⟨_, rfl⟩
            replace H : (impl_Engine_pairs.l1 k2 y43 l0_3 (l0_3.length : Int) x12_1 ((rd_T87 l0_3 x12_1).f1) (((rd_T87 l0_3 x12_1).f1).length : Int) (wrap64 (x19_2 + 1)) ((rd_T87 l0_3 x12_1).f0) ((rd_T87 l0_3 x12_1).f1)) = some r := by first | (rw [hy43]; with_reducible exact H) | (have H2_ := (Option.bind_some _ _).symm.trans H; rw [hy43]; with_reducible exact H2_) | (have H2_ := (Option.bind_some _ _).symm.trans H; with_reducible exact H2_) | with_reducible exact H | (rw [hy43]; exact H) | exact H
            have Ny43 := Aside0.mk hy43
            clear hy43
            have H' := Aside0.mk H
            clear H
            have p323 : 0 ≤ (x19_2 : Int) := of_decide_eq_true za
            have q38 : x19_2 < (((rd_T87 l0_3 x12_1).f1).length : Int) := of_decide_eq_true za
            obtain ⟨ad38, e323, hx38_0, hx38_1, hx38_2, hx38_3⟩ := at_T89 HR321_1.out x19_2 p323 q38
            (try rw [← Nbq15.out] at hx38_2)
            cases e323
            replace hx38_0 := zx HB hx38_0
            replace hx38_1 := zx HB hx38_1
            replace hx38_2 := zx HB hx38_2
            replace hx38_3 := zx HB hx38_3
            replace p323 := eq_true p323
            replace q38 := eq_true q38
            go_wp2_with (first | ((with_reducible refine gate_dst (N := 7) rfl ?_); refine box_event ?hg (N := 7) ?hd (cs := #[.int .i64 0, .int .i64 0, .bool false, .int .i64 0]) (t := 89) ?hr ?_; (case hd => rfl); (case hg => rfl); (case hr => first | (go_simp; done) | (go_simp; rfl)); intro gb41 hg w22 hbox hb; have n0_ := Aside0.mk (Kd.R_below (by (with_reducible repeat (first | apply Kd.R_alloc | apply Kd.R_drewN | apply Kd.R_drew)); exact HO_3.out) hb); have n1_ := Aside0.mk (blk_below (g := gb34) (o := .cells #[.int .i64 a0_0, .int .i64 a0_1, .slice A0_2 l0_2.length c0_2, .slice (some ad40) l0_3.length c0_3] 33 (0, 0)) zk hb); have n2_ := Aside0.mk (blk_below (g := gb36) (o := .cells #[.int .i64 ((rd_T87 l0_3 x12_1).f0), .slice (some ad38) ((rd_T87 l0_3 x12_1).f1).length c40_1] 87 (0, 0)) zk hb); have n3_ := Aside0.mk (below_step zb hb); have n4_ := Aside0.mk (hbox); have n5_ := Aside0.mk ((by rw [hg]; exact (below_size zb) : w.heap.size ≤ gb41)); have n6_ := n5_; have n7_ := Aside0.mk ((by rw [hg]; exact Nat.ne_of_lt (blk_lt (g := gb34) (o := .cells #[.int .i64 a0_0, .int .i64 a0_1, .slice A0_2 l0_2.length c0_2, .slice (some ad40) l0_3.length c0_3] 33 (0, 0)) zk) : gb34 ≠ gb41)); have n8_ := Aside0.mk ((by rw [hg]; exact Nat.ne_of_gt (blk_lt (g := gb34) (o := .cells #[.int .i64 a0_0, .int .i64 a0_1, .slice A0_2 l0_2.length c0_2, .slice (some ad40) l0_3.length c0_3] 33 (0, 0)) zk) : gb41 ≠ gb34)); have n9_ := Aside0.mk ((by rw [hg]; exact Nat.ne_of_lt (blk_lt (g := gb36) (o := .cells #[.int .i64 ((rd_T87 l0_3 x12_1).f0), .slice (some ad38) ((rd_T87 l0_3 x12_1).f1).length c40_1] 87 (0, 0)) zk) : gb36 ≠ gb41)); have n10_ := Aside0.mk ((by rw [hg]; exact Nat.ne_of_gt (blk_lt (g := gb36) (o := .cells #[.int .i64 ((rd_T87 l0_3 x12_1).f0), .slice (some ad38) ((rd_T87 l0_3 x12_1).f1).length c40_1] 87 (0, 0)) zk) : gb41 ≠ gb36)); clear HO_3; clear BK34; clear BK36; clear HB; have HO_3 := n0_; have BK34 := n1_; have BK36 := n2_; have HB := n3_; have BK41 := n4_; have GW41 := n5_; have GE41 := n6_; have NB313_324 := n7_; have NB324_313 := n8_; have NB322_324 := n9_; have NB324_322 := n10_; clear n0_ n1_ n2_ n3_ n4_ n5_ n6_ n7_ n8_ n9_ n10_; clear hb hbox hg; have hnb23 := NB324_313.out; have hnc23 := NB313_324.out; have hnb24 := NB324_322.out; have hnc24 := NB322_324.out; obtain ⟨hcz25_0, hcz25_1, hcz25_2, hcz25_3, hfz25_0, hfz25_1, hfz25_2, hfz25_3⟩ := Go.Proofs.YtocdahbinombkaaGreat.Lv.blks4 BK41.out; have hnb26 := NB322_313.out; have hnc26 := NB313_322.out; obtain ⟨hcz27_0, hcz27_1, hfz27_0, hfz27_1⟩ := Go.Proofs.YtocdahbinombkaaGreat.Lv.blks2 BK36.out) | ((with_reducible refine gate_builtin (b := .append) (xs := #[.tmp 26, .tmp 32]) rfl ?_); at_builtin; refine Kd.R_append k55 (w0 := w) w.heap.size rfl (.tmp 26) (.tmp 32) 35 55 (.agg #[(.int .i64 0), (.int .i64 0)]) 16 rfl Tryz.underlying35 info55 rfl (by decide) (by omega) u3 x3_2 (⟨(rd_T89 ((rd_T87 l0_3 x12_1).f1) x19_2).f3, ((rd_T87 l0_3 x12_1).f0)⟩ : S55) [.int .i64 ((rd_T89 ((rd_T87 l0_3 x12_1).f1) x19_2).f3), .int .i64 ((rd_T87 l0_3 x12_1).f0)] (fun _ => True) (fun _ => False) rfl (by first | exact (congrArg (fun n_ => Value.slice (some ⟨n_, 0, none⟩) 1 1) (by simp [World.setCell])) | (go_simp; done) | (go_simp; rfl)) ?aP (fun _ hk => hk.elim) ?aF ?aO ?aB ?aS ?aL ?_; (case aP => exact k55_mkM _ _ _ (⟨(rd_T89 ((rd_T87 l0_3 x12_1).f1) x19_2).f3, ((rd_T87 l0_3 x12_1).f0)⟩ : S55)); (case aB => exact zb); (case aF => exact (fun _ _ => trivial)); (case aO => exact (by (with_reducible repeat (first | apply Kd.R_alloc | apply Kd.R_drewN | apply Kd.R_drew)); exact Kd.R_mono (Kd.R_far (p := ⟨gb41, 3, none⟩) (Kd.R_far (p := ⟨gb41, 2, none⟩) (Kd.R_far (p := ⟨gb41, 1, none⟩) (Kd.R_far (p := ⟨gb41, 0, none⟩) (Kd.R_types HO_3.out BK41.out (by decide)) (fun _ hk => hk.2) (.int .i64 ((rd_T89 ((rd_T87 l0_3 x12_1).f1) x19_2).f0))) (fun _ hk => hk.2) (.int .i64 ((rd_T89 ((rd_T87 l0_3 x12_1).f1) x19_2).f1))) (fun _ hk => hk.2) (.bool false)) (fun _ hk => hk.2) (.int .i64 ((rd_T89 ((rd_T87 l0_3 x12_1).f1) x19_2).f3))) (fun _ hk => trivial))); (case aS => exact (below_size zb)); (case aL => have := LMc21.out; omega); intro v52 w28 ho hb hg hat; rw [← Ny43.out] at ho; have n0_ := Aside0.mk (blk_grown (g := gb34) (o := .cells #[.int .i64 a0_0, .int .i64 a0_1, .slice A0_2 l0_2.length c0_2, .slice (some ad40) l0_3.length c0_3] 33 (0, 0)) (by (with_reducible repeat (first | refine blk_drewN ?_ _ | refine blk_drew ?_ | refine blk_alloc ?_ _)); refine blk_far ?_ NB313_324.out _; (with_reducible repeat (first | refine blk_drewN ?_ _ | refine blk_drew ?_ | refine blk_alloc ?_ _)); refine blk_far ?_ NB313_324.out _; (with_reducible repeat (first | refine blk_drewN ?_ _ | refine blk_drew ?_ | refine blk_alloc ?_ _)); refine blk_far ?_ NB313_324.out _; (with_reducible repeat (first | refine blk_drewN ?_ _ | refine blk_drew ?_ | refine blk_alloc ?_ _)); refine blk_far ?_ NB313_324.out _; (with_reducible repeat (first | refine blk_drewN ?_ _ | refine blk_drew ?_ | refine blk_alloc ?_ _)); exact BK34.out) hg (Kd.R_ne HO_3.out BK34.out (by decide))); have n1_ := Aside0.mk (blk_grown (g := gb36) (o := .cells #[.int .i64 ((rd_T87 l0_3 x12_1).f0), .slice (some ad38) ((rd_T87 l0_3 x12_1).f1).length c40_1] 87 (0, 0)) (by (with_reducible repeat (first | refine blk_drewN ?_ _ | refine blk_drew ?_ | refine blk_alloc ?_ _)); refine blk_far ?_ NB322_324.out _; (with_reducible repeat (first | refine blk_drewN ?_ _ | refine blk_drew ?_ | refine blk_alloc ?_ _)); refine blk_far ?_ NB322_324.out _; (with_reducible repeat (first | refine blk_drewN ?_ _ | refine blk_drew ?_ | refine blk_alloc ?_ _)); refine blk_far ?_ NB322_324.out _; (with_reducible repeat (first | refine blk_drewN ?_ _ | refine blk_drew ?_ | refine blk_alloc ?_ _)); refine blk_far ?_ NB322_324.out _; (with_reducible repeat (first | refine blk_drewN ?_ _ | refine blk_drew ?_ | refine blk_alloc ?_ _)); exact BK36.out) hg (Kd.R_ne HO_3.out BK36.out (by decide))); have n2_ := Aside0.mk (blk_grown (g := gb41) (o := .cells #[.int .i64 ((rd_T89 ((rd_T87 l0_3 x12_1).f1) x19_2).f0), .int .i64 ((rd_T89 ((rd_T87 l0_3 x12_1).f1) x19_2).f1), .bool false, .int .i64 ((rd_T89 ((rd_T87 l0_3 x12_1).f1) x19_2).f3)] 89 (0, 0)) (by (with_reducible repeat (first | refine blk_drewN ?_ _ | refine blk_drew ?_ | refine blk_alloc ?_ _)); refine blk_put (cs := #[.int .i64 ((rd_T89 ((rd_T87 l0_3 x12_1).f1) x19_2).f0), .int .i64 ((rd_T89 ((rd_T87 l0_3 x12_1).f1) x19_2).f1), .bool false, .int .i64 0]) ?_ 3 _ rfl; (with_reducible repeat (first | refine blk_drewN ?_ _ | refine blk_drew ?_ | refine blk_alloc ?_ _)); refine blk_put (cs := #[.int .i64 ((rd_T89 ((rd_T87 l0_3 x12_1).f1) x19_2).f0), .int .i64 ((rd_T89 ((rd_T87 l0_3 x12_1).f1) x19_2).f1), .bool false, .int .i64 0]) ?_ 2 _ rfl; (with_reducible repeat (first | refine blk_drewN ?_ _ | refine blk_drew ?_ | refine blk_alloc ?_ _)); refine blk_put (cs := #[.int .i64 ((rd_T89 ((rd_T87 l0_3 x12_1).f1) x19_2).f0), .int .i64 0, .bool false, .int .i64 0]) ?_ 1 _ rfl; (with_reducible repeat (first | refine blk_drewN ?_ _ | refine blk_drew ?_ | refine blk_alloc ?_ _)); refine blk_put (cs := #[.int .i64 0, .int .i64 0, .bool false, .int .i64 0]) ?_ 0 _ rfl; (with_reducible repeat (first | refine blk_drewN ?_ _ | refine blk_drew ?_ | refine blk_alloc ?_ _)); exact BK41.out) hg (Kd.R_ne HO_3.out BK41.out (by decide))); have n3_ := Aside0.mk (hb); have n4_ := Aside0.mk (ho); clear BK34; clear BK36; clear BK41; clear HB; clear HO_3; have BK34 := n0_; have BK36 := n1_; have BK41 := n2_; have HB := n3_; have HO49 := n4_; clear n0_ n1_ n2_ n3_ n4_; clear ho hb hg hat))
            go_roundg k2
            case measure => have := HK1.out; have := HK2.out; omega
            case rel => exact ⟨(y43), (wrap64 (x19_2 + 1)), zs, H', ⟨by have := HK1.out; have := HK2.out; omega⟩, ⟨by (with_reducible repeat (first | apply Kd.R_alloc | apply Kd.R_drewN | apply Kd.R_drew)); exact HO49.out⟩, ⟨by (with_reducible repeat (first | refine blk_drewN ?_ _ | refine blk_drew ?_ | refine blk_alloc ?_ _)); exact BK34.out⟩, ⟨by (with_reducible repeat (first | refine blk_drewN ?_ _ | refine blk_drew ?_ | refine blk_alloc ?_ _)); exact BK36.out⟩, ⟨zb⟩⟩
           rw [if_neg c21] at H
           exact absurd H (by simp)
          rw [if_neg c14] at H
          exact absurd H (by simp)
         rw [if_neg c13] at H
         exact absurd H (by simp)
        rw [if_neg c12] at H
        have c12b0 : decide (x19_2 < (((rd_T87 l0_3 x12_1).f1).length : Int)) = false := decide_eq_false c12
        clear c12
        have H' := Aside0.mk H
        clear H
        go_wp2
        go_roundg k2
        case measure => have := HK1.out; have := HK2.out; omega
        case rel => exact ⟨(x3_2), (wrap64 (x12_1 + 1)), zs, H', ⟨by have := HK1.out; have := HK2.out; omega⟩, ⟨by (with_reducible repeat (first | apply Kd.R_alloc | apply Kd.R_drewN | apply Kd.R_drew)); exact HO_3.out⟩, ⟨by (with_reducible repeat (first | refine blk_drewN ?_ _ | refine blk_drew ?_ | refine blk_alloc ?_ _)); exact BK34.out⟩, ⟨zb⟩⟩
     rw [if_neg c8] at H
     exact absurd H (by simp)
    rw [if_neg c7] at H
    exact absurd H (by simp)
   rw [if_neg c6] at H
   have c6b0 : decide (x12_1 < (l0_3.length : Int)) = false := decide_eq_false c6
   clear c6
   replace H := Option.bind_eq_some_iff.mp H
   obtain ⟨t45, A46, H⟩ := H
   replace H : ((slices_Compact_impl_Pair.f t45).bind fun t44 => (some t44)) = some r := H
   have A29 := Aside0.mk A46
   clear A46
   replace H := Option.bind_eq_some_iff.mp H
   obtain ⟨t44, A47, H⟩ := H
   replace H : (some t44) = some r := H
   have A30 := Aside0.mk A47
   clear A47
   obtain rfl := Option.some.inj H
   obtain ⟨Ao31, co31, eo31⟩ := Kd.R_slice HO_3.out
   subst eo31
   go_wp2_with (first | ((with_reducible refine gate_callee (f := 72) rfl ?_); refine goesL_ (some 37) rfl rfl Tryz.func72 (by kernel_rfl) rfl #[.slice Ao31 x3_1.length co31, (.func (.func 70) #[] #[])] rfl zm ?_; (with_reducible refine (slices_SortFunc_impl_Pair.calls (fun k_ => some k_ = (.slice Ao31 x3_1.length co31 : Value).ownBlock) (.slice Ao31 x3_1.length co31) x3_1 (.func (.func 70) #[] #[]) t45 w _ ?side1 ?side2 A29.out).mono ?_); (case side1 => repeat (first | (with_reducible first | exact HB.out | apply below_alloc | apply pw_below_drewN | apply below_drew1 | refine below_set ?_ GE34.out) | exact HB.out)); (case side2 => exact Kd.R_tight rfl HO_3.out); rintro e w32 ⟨rfl, hy0, hb, hkp⟩; refine ⟨_, rfl, ?_⟩; have n0_ := Aside0.mk (Kd.R_reok rfl hy0 (fun k_ e_ => HO_3.out.1 k_ e_)); have n1_ := Aside0.mk (blk_kept zk hkp (fun hs_ => (fun e_ => (Kd.R_ne HO_3.out BK34.out (by decide)) e_) hs_)); have n2_ := Aside0.mk (hb); clear HO_3; clear BK34; clear HB; have HO_3 := n0_; have BK34 := n1_; have HB := n2_; clear n0_ n1_ n2_; (try clear hb); (try clear hkp); (try clear hy0)) | ((with_reducible refine gate_callee (f := 73) rfl ?_); refine goesL_ (some 39) rfl rfl Tryz.func73 (by kernel_rfl) rfl #[.slice Ao31 x3_1.length co31] rfl zm ?_; (with_reducible refine (slices_Compact_impl_Pair.calls (fun k_ => some k_ = (.slice Ao31 x3_1.length co31 : Value).ownBlock) (.slice Ao31 x3_1.length co31) t45 t44 w _ ?side1 ?side2 A30.out).mono ?_); (case side1 => repeat (first | (with_reducible first | exact HB.out | apply below_alloc | apply pw_below_drewN | apply below_drew1 | refine below_set ?_ GE34.out) | exact HB.out)); (case side2 => exact Kd.R_tight rfl HO_3.out); rintro e w33 ⟨v53, rfl, ho0, hb, hkp⟩; refine ⟨_, rfl, ?_⟩; have n0_ := Aside0.mk (blk_kept zk hkp (fun hs_ => (fun e_ => (Kd.R_ne HO_3.out BK34.out (by decide)) e_) hs_)); have n1_ := Aside0.mk (Kd.R_mono (ok' := fun k_ => True) ho0 (fun k_ hk_ => trivial)); have n2_ := Aside0.mk (hb); clear BK34; clear HB; clear HO_3; have BK34 := n0_; have HO50 := n1_; have HB := n2_; clear n0_ n1_ n2_; (try clear hb); (try clear hkp); (try clear ho0)))
   go_ret
   exact ⟨_, ze, by (with_reducible repeat (first | apply Kd.R_alloc | apply Kd.R_drewN | apply Kd.R_drew)); exact HO50.out, zb⟩
set_option maxHeartbeats 8000000 in
set_option maxRecDepth 100000 in
theorem laws_eqUndo.calls (a0_0 : Int) (a0_1 : Bool) (a0_2 : Bool) (a0_3 : Int) (a1_0 : Int) (a1_1 : Bool) (a1_2 : Bool) (a1_3 : Int) (r : Bool) (w : World) (h : laws_eqUndo.f a0_0 a0_1 a0_2 a0_3 a1_0 a1_1 a1_2 a1_3 = some r) :
 Calls Tryz.prog 117 #[.agg #[.int .i64 a0_0, .bool a0_1, .bool a0_2, .int .i64 a0_3], .agg #[.int .i64 a1_0, .bool a1_1, .bool a1_2, .int .i64 a1_3]] w fun e w' => e = .returned (.bool r) ∧ Below w.heap.size w w' := by
 have hu100 := Tryz.underlying100
 have HB := Aside0.mk (Below.refl w.heap.size w)
 have H : (if a0_0 = a1_0 then (if (a0_1 != a1_1) = true then (some false) else (if (a0_2 != a1_2) = true then (some false) else (if a0_3 = a1_3 then (some true) else (some false)))) else (some false)) = some r := h
 clear h
 by_cases c3 : a0_0 = a1_0
 ·rw [if_pos c3] at H
  have c3b0 : (a0_0 == a1_0) = true := beq_iff_eq.mpr c3
  have c3b1 : (a0_0 != a1_0) = false := bne_eq_false_iff_eq.mpr c3
  clear c3
  by_cases c4 : (a0_1 != a1_1) = true
  ·rw [if_pos c4] at H
   have c4b0 : (a0_1 != a1_1) = true := c4
   (try (have c4b1 : decide (a0_1 = a1_1) = false := by simpa using c4))
   (try (have c4b2 : (a0_1 == a1_1) = false := by simpa using c4))
   (try (have c4b3 : ¬ (a0_1 = a1_1) := by simpa using c4))
   clear c4
   obtain rfl := Option.some.inj H
   go_enter Tryz.func117, Tryz.ntmps117
   go_wp2_with (first | ((with_reducible refine gate_dst (N := 2) rfl ?_); refine box_event ?hg (N := 2) ?hd (cs := #[.int .i64 a0_0, .bool a0_1, .bool a0_2, .int .i64 a0_3]) (t := 100) ?hr ?_; (case hd => rfl); (case hg => rfl); (case hr => first | (go_simp; done) | (go_simp; rfl)); intro gb32 hg w5 hbox hb; have n0_ := Aside0.mk (below_step zb hb); have n1_ := Aside0.mk (hbox); have n2_ := Aside0.mk ((by rw [hg]; exact (below_size zb) : w.heap.size ≤ gb32)); have n3_ := n2_; clear HB; have HB := n0_; have BK32 := n1_; have GW32 := n2_; have GE32 := n3_; clear n0_ n1_ n2_ n3_; clear hb hbox hg) | ((with_reducible refine gate_dst (N := 3) rfl ?_); refine box_event ?hg (N := 3) ?hd (cs := #[.int .i64 a1_0, .bool a1_1, .bool a1_2, .int .i64 a1_3]) (t := 100) ?hr ?_; (case hd => rfl); (case hg => rfl); (case hr => first | (go_simp; done) | (go_simp; rfl)); intro gb33 hg w6 hbox hb; have n0_ := Aside0.mk (blk_below (g := gb32) (o := .cells #[.int .i64 a0_0, .bool a0_1, .bool a0_2, .int .i64 a0_3] 100 (0, 0)) zk hb); have n1_ := Aside0.mk (below_step zb hb); have n2_ := Aside0.mk (hbox); have n3_ := Aside0.mk ((by rw [hg]; exact (below_size zb) : w.heap.size ≤ gb33)); have n4_ := n3_; have n5_ := Aside0.mk ((by rw [hg]; exact Nat.ne_of_lt (blk_lt (g := gb32) (o := .cells #[.int .i64 a0_0, .bool a0_1, .bool a0_2, .int .i64 a0_3] 100 (0, 0)) zk) : gb32 ≠ gb33)); have n6_ := Aside0.mk ((by rw [hg]; exact Nat.ne_of_gt (blk_lt (g := gb32) (o := .cells #[.int .i64 a0_0, .bool a0_1, .bool a0_2, .int .i64 a0_3] 100 (0, 0)) zk) : gb33 ≠ gb32)); clear BK32; clear HB; have BK32 := n0_; have HB := n1_; have BK33 := n2_; have GW33 := n3_; have GE33 := n4_; have NB328_329 := n5_; have NB329_328 := n6_; clear n0_ n1_ n2_ n3_ n4_ n5_ n6_; clear hb hbox hg; have hnb7 := NB328_329.out; have hnc7 := NB329_328.out; obtain ⟨hcz8_0, hcz8_1, hcz8_2, hcz8_3, hfz8_0, hfz8_1, hfz8_2, hfz8_3⟩ := Go.Proofs.YtocdahbinombkaaGreat.Lv.blks4 BK32.out; obtain ⟨hcz9_0, hcz9_1, hcz9_2, hcz9_3, hfz9_0, hfz9_1, hfz9_2, hfz9_3⟩ := Go.Proofs.YtocdahbinombkaaGreat.Lv.blks4 BK33.out))
   go_ret
   exact ⟨ze, zb⟩
  rw [if_neg c4] at H
  have c4b0 : (a0_1 != a1_1) = false := by simpa using c4
  (try (have c4b1 : decide (a0_1 = a1_1) = true := by simpa using c4))
  (try (have c4b2 : (a0_1 == a1_1) = true := by simpa using c4))
  clear c4
  by_cases c10 : (a0_2 != a1_2) = true
  ·rw [if_pos c10] at H
   have c10b0 : (a0_2 != a1_2) = true := c10
   (try (have c10b1 : decide (a0_2 = a1_2) = false := by simpa using c10))
   (try (have c10b2 : (a0_2 == a1_2) = false := by simpa using c10))
   (try (have c10b3 : ¬ (a0_2 = a1_2) := by simpa using c10))
   clear c10
   obtain rfl := Option.some.inj H
   go_enter Tryz.func117, Tryz.ntmps117
   go_wp2_with (first | ((with_reducible refine gate_dst (N := 2) rfl ?_); refine box_event ?hg (N := 2) ?hd (cs := #[.int .i64 a0_0, .bool a0_1, .bool a0_2, .int .i64 a0_3]) (t := 100) ?hr ?_; (case hd => rfl); (case hg => rfl); (case hr => first | (go_simp; done) | (go_simp; rfl)); intro gb32 hg w11 hbox hb; have n0_ := Aside0.mk (below_step zb hb); have n1_ := Aside0.mk (hbox); have n2_ := Aside0.mk ((by rw [hg]; exact (below_size zb) : w.heap.size ≤ gb32)); have n3_ := n2_; clear HB; have HB := n0_; have BK32 := n1_; have GW32 := n2_; have GE32 := n3_; clear n0_ n1_ n2_ n3_; clear hb hbox hg) | ((with_reducible refine gate_dst (N := 3) rfl ?_); refine box_event ?hg (N := 3) ?hd (cs := #[.int .i64 a1_0, .bool a1_1, .bool a1_2, .int .i64 a1_3]) (t := 100) ?hr ?_; (case hd => rfl); (case hg => rfl); (case hr => first | (go_simp; done) | (go_simp; rfl)); intro gb33 hg w12 hbox hb; have n0_ := Aside0.mk (blk_below (g := gb32) (o := .cells #[.int .i64 a0_0, .bool a0_1, .bool a0_2, .int .i64 a0_3] 100 (0, 0)) zk hb); have n1_ := Aside0.mk (below_step zb hb); have n2_ := Aside0.mk (hbox); have n3_ := Aside0.mk ((by rw [hg]; exact (below_size zb) : w.heap.size ≤ gb33)); have n4_ := n3_; have n5_ := Aside0.mk ((by rw [hg]; exact Nat.ne_of_lt (blk_lt (g := gb32) (o := .cells #[.int .i64 a0_0, .bool a0_1, .bool a0_2, .int .i64 a0_3] 100 (0, 0)) zk) : gb32 ≠ gb33)); have n6_ := Aside0.mk ((by rw [hg]; exact Nat.ne_of_gt (blk_lt (g := gb32) (o := .cells #[.int .i64 a0_0, .bool a0_1, .bool a0_2, .int .i64 a0_3] 100 (0, 0)) zk) : gb33 ≠ gb32)); clear BK32; clear HB; have BK32 := n0_; have HB := n1_; have BK33 := n2_; have GW33 := n3_; have GE33 := n4_; have NB328_329 := n5_; have NB329_328 := n6_; clear n0_ n1_ n2_ n3_ n4_ n5_ n6_; clear hb hbox hg; have hnb13 := NB328_329.out; have hnc13 := NB329_328.out; obtain ⟨hcz14_0, hcz14_1, hcz14_2, hcz14_3, hfz14_0, hfz14_1, hfz14_2, hfz14_3⟩ := Go.Proofs.YtocdahbinombkaaGreat.Lv.blks4 BK32.out; obtain ⟨hcz15_0, hcz15_1, hcz15_2, hcz15_3, hfz15_0, hfz15_1, hfz15_2, hfz15_3⟩ := Go.Proofs.YtocdahbinombkaaGreat.Lv.blks4 BK33.out))
   go_ret
   exact ⟨ze, zb⟩
  rw [if_neg c10] at H
  have c10b0 : (a0_2 != a1_2) = false := by simpa using c10
  (try (have c10b1 : decide (a0_2 = a1_2) = true := by simpa using c10))
  (try (have c10b2 : (a0_2 == a1_2) = true := by simpa using c10))
  clear c10
  by_cases c16 : a0_3 = a1_3
  ·rw [if_pos c16] at H
   have c16b0 : (a0_3 == a1_3) = true := beq_iff_eq.mpr c16
   have c16b1 : (a0_3 != a1_3) = false := bne_eq_false_iff_eq.mpr c16
   clear c16
   obtain rfl := Option.some.inj H
   go_enter Tryz.func117, Tryz.ntmps117
   go_wp2_with (first | ((with_reducible refine gate_dst (N := 2) rfl ?_); refine box_event ?hg (N := 2) ?hd (cs := #[.int .i64 a0_0, .bool a0_1, .bool a0_2, .int .i64 a0_3]) (t := 100) ?hr ?_; (case hd => rfl); (case hg => rfl); (case hr => first | (go_simp; done) | (go_simp; rfl)); intro gb32 hg w17 hbox hb; have n0_ := Aside0.mk (below_step zb hb); have n1_ := Aside0.mk (hbox); have n2_ := Aside0.mk ((by rw [hg]; exact (below_size zb) : w.heap.size ≤ gb32)); have n3_ := n2_; clear HB; have HB := n0_; have BK32 := n1_; have GW32 := n2_; have GE32 := n3_; clear n0_ n1_ n2_ n3_; clear hb hbox hg) | ((with_reducible refine gate_dst (N := 3) rfl ?_); refine box_event ?hg (N := 3) ?hd (cs := #[.int .i64 a1_0, .bool a1_1, .bool a1_2, .int .i64 a1_3]) (t := 100) ?hr ?_; (case hd => rfl); (case hg => rfl); (case hr => first | (go_simp; done) | (go_simp; rfl)); intro gb33 hg w18 hbox hb; have n0_ := Aside0.mk (blk_below (g := gb32) (o := .cells #[.int .i64 a0_0, .bool a0_1, .bool a0_2, .int .i64 a0_3] 100 (0, 0)) zk hb); have n1_ := Aside0.mk (below_step zb hb); have n2_ := Aside0.mk (hbox); have n3_ := Aside0.mk ((by rw [hg]; exact (below_size zb) : w.heap.size ≤ gb33)); have n4_ := n3_; have n5_ := Aside0.mk ((by rw [hg]; exact Nat.ne_of_lt (blk_lt (g := gb32) (o := .cells #[.int .i64 a0_0, .bool a0_1, .bool a0_2, .int .i64 a0_3] 100 (0, 0)) zk) : gb32 ≠ gb33)); have n6_ := Aside0.mk ((by rw [hg]; exact Nat.ne_of_gt (blk_lt (g := gb32) (o := .cells #[.int .i64 a0_0, .bool a0_1, .bool a0_2, .int .i64 a0_3] 100 (0, 0)) zk) : gb33 ≠ gb32)); clear BK32; clear HB; have BK32 := n0_; have HB := n1_; have BK33 := n2_; have GW33 := n3_; have GE33 := n4_; have NB328_329 := n5_; have NB329_328 := n6_; clear n0_ n1_ n2_ n3_ n4_ n5_ n6_; clear hb hbox hg; have hnb19 := NB328_329.out; have hnc19 := NB329_328.out; obtain ⟨hcz20_0, hcz20_1, hcz20_2, hcz20_3, hfz20_0, hfz20_1, hfz20_2, hfz20_3⟩ := Go.Proofs.YtocdahbinombkaaGreat.Lv.blks4 BK32.out; obtain ⟨hcz21_0, hcz21_1, hcz21_2, hcz21_3, hfz21_0, hfz21_1, hfz21_2, hfz21_3⟩ := Go.Proofs.YtocdahbinombkaaGreat.Lv.blks4 BK33.out))
   go_ret
   exact ⟨ze, zb⟩
  rw [if_neg c16] at H
  have c16b0 : (a0_3 == a1_3) = false := beq_eq_false_iff_ne.mpr c16
  have c16b1 : (a0_3 != a1_3) = true := bne_iff_ne.mpr c16
  obtain rfl := Option.some.inj H
  go_enter Tryz.func117, Tryz.ntmps117
  go_wp2_with (first | ((with_reducible refine gate_dst (N := 2) rfl ?_); refine box_event ?hg (N := 2) ?hd (cs := #[.int .i64 a0_0, .bool a0_1, .bool a0_2, .int .i64 a0_3]) (t := 100) ?hr ?_; (case hd => rfl); (case hg => rfl); (case hr => first | (go_simp; done) | (go_simp; rfl)); intro gb32 hg w22 hbox hb; have n0_ := Aside0.mk (below_step zb hb); have n1_ := Aside0.mk (hbox); have n2_ := Aside0.mk ((by rw [hg]; exact (below_size zb) : w.heap.size ≤ gb32)); have n3_ := n2_; clear HB; have HB := n0_; have BK32 := n1_; have GW32 := n2_; have GE32 := n3_; clear n0_ n1_ n2_ n3_; clear hb hbox hg) | ((with_reducible refine gate_dst (N := 3) rfl ?_); refine box_event ?hg (N := 3) ?hd (cs := #[.int .i64 a1_0, .bool a1_1, .bool a1_2, .int .i64 a1_3]) (t := 100) ?hr ?_; (case hd => rfl); (case hg => rfl); (case hr => first | (go_simp; done) | (go_simp; rfl)); intro gb33 hg w23 hbox hb; have n0_ := Aside0.mk (blk_below (g := gb32) (o := .cells #[.int .i64 a0_0, .bool a0_1, .bool a0_2, .int .i64 a0_3] 100 (0, 0)) zk hb); have n1_ := Aside0.mk (below_step zb hb); have n2_ := Aside0.mk (hbox); have n3_ := Aside0.mk ((by rw [hg]; exact (below_size zb) : w.heap.size ≤ gb33)); have n4_ := n3_; have n5_ := Aside0.mk ((by rw [hg]; exact Nat.ne_of_lt (blk_lt (g := gb32) (o := .cells #[.int .i64 a0_0, .bool a0_1, .bool a0_2, .int .i64 a0_3] 100 (0, 0)) zk) : gb32 ≠ gb33)); have n6_ := Aside0.mk ((by rw [hg]; exact Nat.ne_of_gt (blk_lt (g := gb32) (o := .cells #[.int .i64 a0_0, .bool a0_1, .bool a0_2, .int .i64 a0_3] 100 (0, 0)) zk) : gb33 ≠ gb32)); clear BK32; clear HB; have BK32 := n0_; have HB := n1_; have BK33 := n2_; have GW33 := n3_; have GE33 := n4_; have NB328_329 := n5_; have NB329_328 := n6_; clear n0_ n1_ n2_ n3_ n4_ n5_ n6_; clear hb hbox hg; have hnb24 := NB328_329.out; have hnc24 := NB329_328.out; obtain ⟨hcz25_0, hcz25_1, hcz25_2, hcz25_3, hfz25_0, hfz25_1, hfz25_2, hfz25_3⟩ := Go.Proofs.YtocdahbinombkaaGreat.Lv.blks4 BK32.out; obtain ⟨hcz26_0, hcz26_1, hcz26_2, hcz26_3, hfz26_0, hfz26_1, hfz26_2, hfz26_3⟩ := Go.Proofs.YtocdahbinombkaaGreat.Lv.blks4 BK33.out))
  go_ret
  exact ⟨ze, zb⟩
 rw [if_neg c3] at H
 have c3b0 : (a0_0 == a1_0) = false := beq_eq_false_iff_ne.mpr c3
 have c3b1 : (a0_0 != a1_0) = true := bne_iff_ne.mpr c3
 obtain rfl := Option.some.inj H
 go_enter Tryz.func117, Tryz.ntmps117
 go_wp2_with (first | ((with_reducible refine gate_dst (N := 2) rfl ?_); refine box_event ?hg (N := 2) ?hd (cs := #[.int .i64 a0_0, .bool a0_1, .bool a0_2, .int .i64 a0_3]) (t := 100) ?hr ?_; (case hd => rfl); (case hg => rfl); (case hr => first | (go_simp; done) | (go_simp; rfl)); intro gb32 hg w27 hbox hb; have n0_ := Aside0.mk (below_step zb hb); have n1_ := Aside0.mk (hbox); have n2_ := Aside0.mk ((by rw [hg]; exact (below_size zb) : w.heap.size ≤ gb32)); have n3_ := n2_; clear HB; have HB := n0_; have BK32 := n1_; have GW32 := n2_; have GE32 := n3_; clear n0_ n1_ n2_ n3_; clear hb hbox hg) | ((with_reducible refine gate_dst (N := 3) rfl ?_); refine box_event ?hg (N := 3) ?hd (cs := #[.int .i64 a1_0, .bool a1_1, .bool a1_2, .int .i64 a1_3]) (t := 100) ?hr ?_; (case hd => rfl); (case hg => rfl); (case hr => first | (go_simp; done) | (go_simp; rfl)); intro gb33 hg w28 hbox hb; have n0_ := Aside0.mk (blk_below (g := gb32) (o := .cells #[.int .i64 a0_0, .bool a0_1, .bool a0_2, .int .i64 a0_3] 100 (0, 0)) zk hb); have n1_ := Aside0.mk (below_step zb hb); have n2_ := Aside0.mk (hbox); have n3_ := Aside0.mk ((by rw [hg]; exact (below_size zb) : w.heap.size ≤ gb33)); have n4_ := n3_; have n5_ := Aside0.mk ((by rw [hg]; exact Nat.ne_of_lt (blk_lt (g := gb32) (o := .cells #[.int .i64 a0_0, .bool a0_1, .bool a0_2, .int .i64 a0_3] 100 (0, 0)) zk) : gb32 ≠ gb33)); have n6_ := Aside0.mk ((by rw [hg]; exact Nat.ne_of_gt (blk_lt (g := gb32) (o := .cells #[.int .i64 a0_0, .bool a0_1, .bool a0_2, .int .i64 a0_3] 100 (0, 0)) zk) : gb33 ≠ gb32)); clear BK32; clear HB; have BK32 := n0_; have HB := n1_; have BK33 := n2_; have GW33 := n3_; have GE33 := n4_; have NB328_329 := n5_; have NB329_328 := n6_; clear n0_ n1_ n2_ n3_ n4_ n5_ n6_; clear hb hbox hg; have hnb29 := NB328_329.out; have hnc29 := NB329_328.out; obtain ⟨hcz30_0, hcz30_1, hcz30_2, hcz30_3, hfz30_0, hfz30_1, hfz30_2, hfz30_3⟩ := Go.Proofs.YtocdahbinombkaaGreat.Lv.blks4 BK32.out; obtain ⟨hcz31_0, hcz31_1, hcz31_2, hcz31_3, hfz31_0, hfz31_1, hfz31_2, hfz31_3⟩ := Go.Proofs.YtocdahbinombkaaGreat.Lv.blks4 BK33.out))
 go_ret
 exact ⟨ze, zb⟩
end Go.Proofs.YtocdahbinombkaaGreat.P
