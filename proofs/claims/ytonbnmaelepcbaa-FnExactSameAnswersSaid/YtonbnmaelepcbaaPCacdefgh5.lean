import Derived.Test.YtonbnmaelepcbaaZz
import Derived.Test.YtonbnmaelepcbaaP0
import Derived.Test.YtonbnmaelepcbaaWRepsOne
import Derived.Test.YtonbnmaelepcbaaLb
import Derived.Shelf.Abstract
namespace Go.Proofs.Ytonbnmaelepcbaa.P
open Go.RowKit Go.Proofs.YtonbnmaelepcbaaW.PrintWords Go.Proofs.YtonbnmaelepcbaaW.PrintLast Go.Proofs.YtonbnmaelepcbaaW.PrintMore
attribute [local go_sem] max2_int min2_int max_two min_two max_three min_three max_four min_four   -- for this text's walks alone
set_option linter.unusedVariables false
set_option linter.unusedSimpArgs false
-- PROOF --
set_option maxHeartbeats 8000000 in
set_option maxRecDepth 100000 in
theorem slices_BinarySearchFunc_impl_Row.calls (g : Nat) (lb : Array Value) (c : S87 → Int) (tv : Value) (A0 : Option Addr) (c0 : Nat) (l0 : List (S87)) (w : World) (hr0 : Kd.C k87 w A0 l0.length l0)
 (hp : ∀ (W : World) (x : S87) (A_1 : Option Addr) (c_1 : Nat), x ∈ l0 → Below w.heap.size w W → x.f1.length ≤ c_1 → Kd.C k90 W A_1 x.f1.length x.f1 → Calls Try.prog g (#[.agg #[.int .i64 x.f0, .slice A_1 x.f1.length c_1], tv] ++ lb) W fun e w' => e = .returned (.int .i64 (c x)) ∧ Below W.heap.size W w')
 (eg : ∀ args w, (callFunc g args).run Try.prog w = .ok (.enter g args) w) :
 Calls Try.prog 141 #[.slice A0 l0.length c0, tv, .func (.func g) #[] lb] w fun e w' => e = .returned (.tuple #[.int .i64 (Go.Proofs.Ytonbnmaelepcbaa.Lb.bs c z87 l0), .bool (Go.Proofs.Ytonbnmaelepcbaa.Lb.bsHit c z87 l0)]) ∧ Below w.heap.size w w' := by
 have hu87 := Try.underlying87
 unfold Go.Proofs.Ytonbnmaelepcbaa.Lb.bsHit
 generalize hR : Go.Proofs.Ytonbnmaelepcbaa.Lb.bs c z87 l0 = r
 generalize hcr : c (l0.getD r.toNat z87) = cr
 have hn := hr0.2.1
 have HR0 := Aside0.mk hr0
 clear hr0
 have HN := Aside0.mk hn
 go_enter Try.func141, Try.ntmps141
 go_wp2
 go_loopg [9, 10, 11] (l0.length + 1) (fun gg s9 s10 _ wr => ∃ (m : Nat) (i j : Int), 0 ≤ i ∧ i ≤ j ∧ j ≤ (l0.length : Int) ∧ Aside0 ((j - i).toNat ≤ m) ∧ Aside0 ((j - i).toNat + 1 ≤ gg) ∧ s9 = .int .i64 i ∧ s10 = .int .i64 j ∧ Aside0 (Below w.heap.size w wr) ∧ Aside0 (Go.Proofs.Ytonbnmaelepcbaa.Lb.bsLoop c z87 l0 m i j = r))
 case atStart => exact ⟨l0.length, 0, l0.length, by omega, by omega, by omega, ⟨by omega⟩, ⟨by omega⟩, rfl, rfl, ⟨Below.refl _ _⟩, ⟨hR⟩⟩
 case round =>
  obtain ⟨m, i, j, hi0, hij, hj1, HM, HG, rfl, rfl, HB, HA⟩ := hrel
  by_cases c2 : i < j
  ·have c2b0 : decide (i < j) = true := decide_eq_true c2
   obtain ⟨m', rfl⟩ : ∃ m', m = m' + 1 := ⟨m - 1, by have := HM.out; omega⟩
   obtain ⟨h, hh⟩ : ∃ h : Int, h = (i + j) / 2 := ⟨_, rfl⟩
   have hx0 : 0 ≤ h := by omega
   have c3 : h < (l0.length : Int) := by omega
   have c3b0 : decide (h < (l0.length : Int)) = true := decide_eq_true c3
   have c4b0 : decide (0 ≤ h) = true := decide_eq_true hx0
   have eu : ∀ n : Int, IntKind.u64.wrap n = n % 18446744073709551616 := by intro n; simp [IntKind.wrap, IntKind.bits, IntKind.signed]
   have ew : wrap64 (IntKind.u64.wrap (wrap64 (i + j)) / 2) = h := by rw [eu, hh]; unfold wrap64; omega
   clear eu
   obtain ⟨ad, A_1, c_1, e1, q0, q1, ql1, qc1⟩ := at_T87 HR0.out h hx0 c3
   cases e1
   replace q0 := zx HB q0
   replace q1 := zx HB q1
   replace qc1 := Kd.C_below qc1 HB.out
   have hx : h.toNat < l0.length := by omega
   have hrd : rd_T87 l0 h = l0.getD h.toNat z87 := rfl
   have hcall := hp wr (rd_T87 l0 h) A_1 c_1 (by rw [hrd, List.getD_eq_getElem?_getD, List.getElem?_eq_getElem hx]; exact List.getElem_mem hx) HB.out ql1 qc1
   have HI := Aside0.mk (And.intro hi0 (And.intro hij hj1))
   have HH := Aside0.mk hh
   have HP := Aside0.mk hp
   have hcv0 : c (rd_T87 l0 h) = c (l0.getD ((i + j) / 2).toNat z87) := by rw [hrd, hh]
   clear hrd hh hi0 hij hj1 hx hp
   generalize c (rd_T87 l0 h) = cv at hcall hcv0
   have HC := Aside0.mk hcv0
   have HC2 := Aside0.mk c2
   clear hcv0 c2
   by_cases hq : cv < 0
   ·have hqb : decide (cv < 0) = true := decide_eq_true hq
    have HQ := Aside0.mk hq
    clear hq
    go_wp2_with (go_at_fn g; refine hcall.mono ?_; rintro e w' ⟨rfl, hb'⟩)
    go_roundg ((j - (h + 1)).toNat + 1)
    case measure => have := HG.out; have := HI.out; have := HH.out; have := HC2.out; omega
    case rel => exact ⟨m', h + 1, j, by omega, by have := HI.out; have := HH.out; have := HC2.out; omega, HI.out.2.2, ⟨by have := HM.out; have := HH.out; have := HC2.out; have := HI.out; omega⟩, ⟨Nat.le_refl _⟩, by first | rfl | go_num, rfl, ⟨HB.out.trans (hb'.mono HB.out.size)⟩, ⟨by rw [← HA.out, Go.Proofs.Ytonbnmaelepcbaa.Lb.bsLoop_low HC2.out (by rw [← HC.out]; have := HQ.out; omega), HH.out]⟩⟩
   ·have hqb : decide (cv < 0) = false := decide_eq_false hq
    have HQ := Aside0.mk hq
    clear hq
    go_wp2_with (go_at_fn g; refine hcall.mono ?_; rintro e w' ⟨rfl, hb'⟩)
    go_roundg ((h - i).toNat + 1)
    case measure => have := HG.out; have := HI.out; have := HH.out; have := HC2.out; omega
    case rel => exact ⟨m', i, h, HI.out.1, by have := HI.out; have := HH.out; have := HC2.out; omega, by omega, ⟨by have := HM.out; have := HH.out; have := HC2.out; have := HI.out; omega⟩, ⟨Nat.le_refl _⟩, rfl, by first | rfl | go_num, ⟨HB.out.trans (hb'.mono HB.out.size)⟩, ⟨by rw [← HA.out, Go.Proofs.Ytonbnmaelepcbaa.Lb.bsLoop_high HC2.out (by rw [← HC.out]; have := HQ.out; omega), HH.out]⟩⟩
  have c2b0 : decide (i < j) = false := decide_eq_false c2
  have hr : r = i := HA.out.symm.trans (Go.Proofs.Ytonbnmaelepcbaa.Lb.bsLoop_end c2)
  subst hr
  have HI := Aside0.mk (And.intro hi0 (And.intro hij hj1))
  clear c2 hR
  by_cases c3 : r < (l0.length : Int)
  ·have c3b0 : decide (r < (l0.length : Int)) = true := decide_eq_true c3
   have c4b0 : decide (0 ≤ r) = true := decide_eq_true hi0
   have hx0 := hi0
   obtain ⟨ad, A_1, c_1, e1, q0, q1, ql1, qc1⟩ := at_T87 HR0.out r hx0 c3
   cases e1
   replace q0 := zx HB q0
   replace q1 := zx HB q1
   replace qc1 := Kd.C_below qc1 HB.out
   have hx : r.toNat < l0.length := by omega
   have hrd : rd_T87 l0 r = l0.getD r.toNat z87 := rfl
   have hcall := hp wr (rd_T87 l0 r) A_1 c_1 (by rw [hrd, List.getD_eq_getElem?_getD, List.getElem?_eq_getElem hx]; exact List.getElem_mem hx) HB.out ql1 qc1
   have hcv : c (rd_T87 l0 r) = cr := hcr
   rw [hcv] at hcall
   have HCR := Aside0.mk hcr
   clear hrd hi0 hij hj1 hx hp hcv hcr
   go_wp2_with (go_at_fn g; refine hcall.mono ?_; rintro e w' ⟨rfl, hb'⟩)
   go_ret2
   exact ⟨by first | rfl | (rw [c3b0]; rfl) | simp [c3b0], HB.out.trans (hb'.mono HB.out.size)⟩
  have c3b0 : decide (r < (l0.length : Int)) = false := decide_eq_false c3
  clear hp hcr
  go_wp2
  go_ret2
  exact ⟨by first | rfl | (rw [c3b0]; rfl) | simp [c3b0], HB.out⟩
end Go.Proofs.Ytonbnmaelepcbaa.P
