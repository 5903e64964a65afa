-- Printed by this session's own program over the kit's print (wip/tools/mp.py). Not trusted: Lean checks it.
import Derived.Test.YtpdfpbnlablhoaaP0
import Derived.Test.YtpdfpbnlablhoaaPD0
import Derived.Test.YtpdfpbnlablhoaaWRepsOne
import Derived.Test.YtpdfpbnlablhoaaLb
import Derived.Shelf.Abstract
import Derived.Test.YtpdfpbnlablhoaaLb
import Derived.Lib.SliceRun
namespace Go.Proofs.Ytpdfpbnlablhoaa.P
open Go.RowKit Go.Proofs.YtpdfpbnlablhoaaW.PrintWords Go.Proofs.YtpdfpbnlablhoaaW.PrintLast Go.Proofs.YtpdfpbnlablhoaaW.PrintMore
attribute [local go_sem] max2_int min2_int max_two min_two max_three min_three max_four min_four   -- for this text's walks alone
set_option linter.unusedVariables false
set_option linter.unusedSimpArgs false

/-! ### spec_l1Find: function 38 -/
set_option maxHeartbeats 8000000 in
set_option maxRecDepth 100000 in
theorem spec_l1Find.calls (k : Nat) (A0 : Option Addr) (c0 : Nat) (l0 : List (S49)) (a1 : Int) (r : Int) (w : World) (hr0 : Kd.C k49 w A0 l0.length l0) (hc0 : l0.length ≤ c0) (h : spec_l1Find.f k l0 a1 = some r) :
  Calls Try.prog 38 #[.slice A0 l0.length c0, .int .i64 a1] w fun e w' => e = .returned (.int .i64 r) ∧ Drawn0 w w' := by
 have HR0 := Aside0.mk hr0
 have HC0 := Aside0.mk hc0
 clear hr0 hc0
 have H : (spec_l1Find.l0 k l0 a1 0) = some r := h
 clear h
 have H' := Aside0.mk H
 clear H
 go_enter Try.func38, Try.ntmps38
 go_wp2
 go_loopg [5] k (fun kq v5 w' => ∃ (x5_1 : Int), v5 = .int .i64 x5_1 ∧ Aside0 (spec_l1Find.l0 kq l0 a1 x5_1 = some r) ∧ Aside0 (kq ≤ k) ∧ Drawn0 w w')
 case atStart => exact ⟨(0), (by first | rfl | (simp; done) | (simp [*]; done)), H', ⟨Nat.le_refl _⟩, by repeat (first | exact Drawn0.refl _ | apply Drawn0.step)⟩
 case round =>
  clear H'
  try clear p2
  obtain ⟨x5_1, rfl, HA, HK1, ⟨m1, rfl⟩⟩ := hrel
  cases gk with
  | zero => exact absurd HA.out (by simp [spec_l1Find.l0])
  | succ k1 =>
   have H := HA.out
   clear HA
   simp only [spec_l1Find.l0] at H
   by_cases c3 : x5_1 < (l0.length : Int)
   ·rw [if_pos c3] at H
    have c3b0 : decide (x5_1 < (l0.length : Int)) = true := decide_eq_true c3
    clear c3
    by_cases c4 : 0 ≤ x5_1
    ·rw [if_pos c4] at H
     have c4b0 : decide (0 ≤ x5_1) = true := decide_eq_true c4
     clear c4
     by_cases c5 : ((rd_T49 l0 x5_1).f0) = a1
     ·rw [if_pos c5] at H
      have c5b0 : (((rd_T49 l0 x5_1).f0) == a1) = true := beq_iff_eq.mpr c5
      have c5b1 : (((rd_T49 l0 x5_1).f0) != a1) = false := bne_eq_false_iff_eq.mpr c5
      clear c5
      obtain rfl := Option.some.inj H
      have p115 : 0 ≤ (x5_1 : Int) := of_decide_eq_true (by first | (with_reducible assumption) | assumption)
      have q115 : x5_1 < (l0.length : Int) := of_decide_eq_true (by first | (with_reducible assumption) | assumption)
      obtain ⟨ad115, e115, hx115_0, hx115_1⟩ := at_T49 HR0.out x5_1 p115 q115
      cases e115
      replace p115 := eq_true p115
      replace q115 := eq_true q115
      go_wp2
      go_ret
      exact ⟨by first | rfl | (simp; done) | (simp [*]; done), by repeat (first | exact Drawn0.refl _ | apply Drawn0.step)⟩
     ·rw [if_neg c5] at H
      have c5b0 : (((rd_T49 l0 x5_1).f0) == a1) = false := beq_eq_false_iff_ne.mpr c5
      have c5b1 : (((rd_T49 l0 x5_1).f0) != a1) = true := bne_iff_ne.mpr c5
      have H' := Aside0.mk H
      clear H
      have p115 : 0 ≤ (x5_1 : Int) := of_decide_eq_true (by first | (with_reducible assumption) | assumption)
      have q115 : x5_1 < (l0.length : Int) := of_decide_eq_true (by first | (with_reducible assumption) | assumption)
      obtain ⟨ad115, e115, hx115_0, hx115_1⟩ := at_T49 HR0.out x5_1 p115 q115
      cases e115
      replace p115 := eq_true p115
      replace q115 := eq_true q115
      go_wp2
      go_roundg k1
      case measure => have := HK1.out; omega
      case rel => exact ⟨(wrap64 (x5_1 + 1)), (by first | rfl | (simp; done) | (simp [*]; done)), H', ⟨by have := HK1.out; omega⟩, by repeat (first | exact Drawn0.refl _ | apply Drawn0.step)⟩
    ·rw [if_neg c4] at H
     exact absurd H (by simp)
   ·rw [if_neg c3] at H
    have c3b0 : decide (x5_1 < (l0.length : Int)) = false := decide_eq_false c3
    clear c3
    obtain rfl := Option.some.inj H
    go_wp2
    go_ret
    exact ⟨by first | rfl | (simp; done) | (simp [*]; done), by repeat (first | exact Drawn0.refl _ | apply Drawn0.step)⟩

/-! ### slices_BinarySearchFunc_impl_Cell: function 72 -/
-- PROOF --
-- NEEDS Derived.Test.@N@Lb
-- NEEDS Derived.Shelf.Abstract
set_option maxHeartbeats 8000000 in
set_option maxRecDepth 100000 in
theorem slices_BinarySearchFunc_impl_Cell.calls (g : Nat) (lb : Array Value) (c : S49 → Int) (tv : Value) (A0 : Option Addr) (c0 : Nat) (l0 : List (S49)) (w : World) (hr0 : Kd.C k49 w A0 l0.length l0)
  (hp : ∀ (W : World) (x : S49), x ∈ l0 → Below w.heap.size w W → Calls Try.prog g (#[.agg #[.int .i64 x.f0, .int .i64 x.f1], tv] ++ lb) W fun e w' => e = .returned (.int .i64 (c x)) ∧ Below W.heap.size W w')
  (eg : ∀ args w, (callFunc g args).run Try.prog w = .ok (.enter g args) w) :
  Calls Try.prog 72 #[.slice A0 l0.length c0, tv, .func (.func g) #[] lb] w fun e w' => e = .returned (.tuple #[.int .i64 (Go.Proofs.Ytpdfpbnlablhoaa.Lb.bs c z49 l0), .bool (Go.Proofs.Ytpdfpbnlablhoaa.Lb.bsHit c z49 l0)]) ∧ Below w.heap.size w w' := by
 have hu49 := Try.underlying49
 unfold Go.Proofs.Ytpdfpbnlablhoaa.Lb.bsHit
 generalize hR : Go.Proofs.Ytpdfpbnlablhoaa.Lb.bs c z49 l0 = r
 generalize hcr : c (l0.getD r.toNat z49) = cr
 have hn := hr0.2.1
 have HR0 := Aside0.mk hr0
 clear hr0
 have HN := Aside0.mk hn
 go_enter Try.func72, Try.ntmps72
 go_wp2
 go_loopg [9, 10, 11] (l0.length + 1) (fun gg s9 s10 _ wr => ∃ (m : Nat) (i j : Int), 0 ≤ i ∧ i ≤ j ∧ j ≤ (l0.length : Int) ∧ Aside0 ((j - i).toNat ≤ m) ∧ Aside0 ((j - i).toNat + 1 ≤ gg) ∧ s9 = .int .i64 i ∧ s10 = .int .i64 j ∧ Aside0 (Below w.heap.size w wr) ∧ Aside0 (Go.Proofs.Ytpdfpbnlablhoaa.Lb.bsLoop c z49 l0 m i j = r))
 case atStart => exact ⟨l0.length, 0, l0.length, by omega, by omega, by omega, ⟨by omega⟩, ⟨by omega⟩, rfl, rfl, ⟨Below.refl _ _⟩, ⟨hR⟩⟩
 case round =>
  obtain ⟨m, i, j, hi0, hij, hj1, HM, HG, rfl, rfl, HB, HA⟩ := hrel
  by_cases c2 : i < j
  ·have c2b0 : decide (i < j) = true := decide_eq_true c2
   obtain ⟨m', rfl⟩ : ∃ m', m = m' + 1 := ⟨m - 1, by have := HM.out; omega⟩
   obtain ⟨h, hh⟩ : ∃ h : Int, h = (i + j) / 2 := ⟨_, rfl⟩
   have hx0 : 0 ≤ h := by omega
   have c3 : h < (l0.length : Int) := by omega
   have c3b0 : decide (h < (l0.length : Int)) = true := decide_eq_true c3
   have c4b0 : decide (0 ≤ h) = true := decide_eq_true hx0
   have eu : ∀ n : Int, IntKind.u64.wrap n = n % 18446744073709551616 := by intro n; simp [IntKind.wrap, IntKind.bits, IntKind.signed]
   have ew : wrap64 (IntKind.u64.wrap (wrap64 (i + j)) / 2) = h := by rw [eu, hh]; unfold wrap64; omega
   clear eu
   obtain ⟨ad, e1, q0, q1⟩ := at_T49 HR0.out h hx0 c3
   cases e1
   replace q0 := (HB.out.cell (World.block_lt_of_cell? w _ q0)).trans q0
   replace q1 := (HB.out.cell (World.block_lt_of_cell? w _ q1)).trans q1
   have hx : h.toNat < l0.length := by omega
   have hrd : rd_T49 l0 h = l0.getD h.toNat z49 := rfl
   have hcall := hp wr (rd_T49 l0 h) (by rw [hrd, List.getD_eq_getElem?_getD, List.getElem?_eq_getElem hx]; exact List.getElem_mem hx) HB.out
   have HI := Aside0.mk (And.intro hi0 (And.intro hij hj1))
   have HH := Aside0.mk hh
   have HP := Aside0.mk hp
   have hcv0 : c (rd_T49 l0 h) = c (l0.getD ((i + j) / 2).toNat z49) := by rw [hrd, hh]
   clear hrd hh hi0 hij hj1 hx hp
   generalize c (rd_T49 l0 h) = cv at hcall hcv0
   have HC := Aside0.mk hcv0
   have HC2 := Aside0.mk c2
   clear hcv0 c2
   by_cases hq : cv < 0
   ·have hqb : decide (cv < 0) = true := decide_eq_true hq
    have HQ := Aside0.mk hq
    clear hq
    go_wp2_with (go_at_fn g; refine hcall.mono ?_; rintro e w' ⟨rfl, hb'⟩)
    go_roundg ((j - (h + 1)).toNat + 1)
    case measure => have := HG.out; have := HI.out; have := HH.out; have := HC2.out; omega
    case rel => exact ⟨m', h + 1, j, by omega, by have := HI.out; have := HH.out; have := HC2.out; omega, HI.out.2.2, ⟨by have := HM.out; have := HH.out; have := HC2.out; have := HI.out; omega⟩, ⟨Nat.le_refl _⟩, by first | rfl | go_num, rfl, ⟨HB.out.trans (hb'.mono HB.out.size)⟩, ⟨by rw [← HA.out, Go.Proofs.Ytpdfpbnlablhoaa.Lb.bsLoop_low HC2.out (by rw [← HC.out]; have := HQ.out; omega), HH.out]⟩⟩
   ·have hqb : decide (cv < 0) = false := decide_eq_false hq
    have HQ := Aside0.mk hq
    clear hq
    go_wp2_with (go_at_fn g; refine hcall.mono ?_; rintro e w' ⟨rfl, hb'⟩)
    go_roundg ((h - i).toNat + 1)
    case measure => have := HG.out; have := HI.out; have := HH.out; have := HC2.out; omega
    case rel => exact ⟨m', i, h, HI.out.1, by have := HI.out; have := HH.out; have := HC2.out; omega, by omega, ⟨by have := HM.out; have := HH.out; have := HC2.out; have := HI.out; omega⟩, ⟨Nat.le_refl _⟩, rfl, by first | rfl | go_num, ⟨HB.out.trans (hb'.mono HB.out.size)⟩, ⟨by rw [← HA.out, Go.Proofs.Ytpdfpbnlablhoaa.Lb.bsLoop_high HC2.out (by rw [← HC.out]; have := HQ.out; omega), HH.out]⟩⟩
  ·have c2b0 : decide (i < j) = false := decide_eq_false c2
   have hr : r = i := HA.out.symm.trans (Go.Proofs.Ytpdfpbnlablhoaa.Lb.bsLoop_end c2)
   subst hr
   have HI := Aside0.mk (And.intro hi0 (And.intro hij hj1))
   clear c2 hR
   by_cases c3 : r < (l0.length : Int)
   ·have c3b0 : decide (r < (l0.length : Int)) = true := decide_eq_true c3
    have c4b0 : decide (0 ≤ r) = true := decide_eq_true hi0
    have hx0 := hi0
    obtain ⟨ad, e1, q0, q1⟩ := at_T49 HR0.out r hx0 c3
    cases e1
    replace q0 := (HB.out.cell (World.block_lt_of_cell? w _ q0)).trans q0
    replace q1 := (HB.out.cell (World.block_lt_of_cell? w _ q1)).trans q1
    have hx : r.toNat < l0.length := by omega
    have hrd : rd_T49 l0 r = l0.getD r.toNat z49 := rfl
    have hcall := hp wr (rd_T49 l0 r) (by rw [hrd, List.getD_eq_getElem?_getD, List.getElem?_eq_getElem hx]; exact List.getElem_mem hx) HB.out
    have hcv : c (rd_T49 l0 r) = cr := hcr
    rw [hcv] at hcall
    have HCR := Aside0.mk hcr
    clear hrd hi0 hij hj1 hx hp hcv hcr
    go_wp2_with (go_at_fn g; refine hcall.mono ?_; rintro e w' ⟨rfl, hb'⟩)
    go_ret2
    exact ⟨by first | rfl | (rw [c3b0]; rfl) | simp [c3b0], HB.out.trans (hb'.mono HB.out.size)⟩
   ·have c3b0 : decide (r < (l0.length : Int)) = false := decide_eq_false c3
    clear hp hcr
    go_wp2
    go_ret2
    exact ⟨by first | rfl | (rw [c3b0]; rfl) | simp [c3b0], HB.out⟩

/-! ### impl_place: function 43 -/
-- PROOF --
-- NEEDS Derived.Test.@N@Lb
-- NEEDS Derived.Shelf.Abstract
set_option maxHeartbeats 1000000 in
theorem impl_place.c_calls (x : S49) (key : Int) (W : World) :
  Calls Try.prog 73 #[.agg #[.int .i64 x.f0, .int .i64 x.f1], .int .i64 key] W fun e w' => e = .returned (.int .i64 (impl_place.c key x)) ∧ Below W.heap.size W w' := by
 have hu49 := Try.underlying49
 rcases x with ⟨a, b⟩
 simp only [impl_place.c]
 have HB := Aside0.mk (Below.refl W.heap.size W)
 go_enter Try.func73, Try.ntmps73
 go_wp2
 go_ret
 first | exact ⟨rfl, HB.out⟩ | exact ⟨rfl, HB.out.alloc (Nat.le_refl _) _⟩
set_option maxHeartbeats 8000000 in
set_option maxRecDepth 100000 in
theorem impl_place.calls (A0 : Option Addr) (c0 : Nat) (l0 : List S49) (a1 : Int) (r1 : Int) (r2 : Bool) (w : World) (hr0 : Kd.C k49 w A0 l0.length l0) (hc0 : l0.length ≤ c0) (h : impl_place.f l0 a1 = some (r1, r2)) :
  Calls Try.prog 43 #[.slice A0 l0.length c0, .int .i64 a1] w fun e w' => e = .returned (.tuple #[.int .i64 r1, .bool r2]) ∧ Below w.heap.size w w' := by
 have h' := Option.some.inj h
 obtain ⟨rfl, rfl⟩ := Prod.mk.inj h'
 clear h h'
 have hcon := fun (W : World) (hr : Kd.C k49 W A0 l0.length l0) =>
  slices_BinarySearchFunc_impl_Cell.calls 73 #[] (impl_place.c a1) (.int .i64 a1) A0 c0 l0 W hr (fun W2 x _ _ => impl_place.c_calls x a1 W2) (enters_of Try.func73 (by kernel_rfl) rfl)
 have HR0 := Aside0.mk hr0
 clear hr0
 generalize Go.Proofs.Ytpdfpbnlablhoaa.Lb.bs (impl_place.c a1) z49 l0 = r1 at hcon ⊢
 generalize Go.Proofs.Ytpdfpbnlablhoaa.Lb.bsHit (impl_place.c a1) z49 l0 = r2 at hcon ⊢
 have HC := Aside0.mk hcon
 clear hcon
 go_enter Try.func43, Try.ntmps43
 go_wp2_with (go_at_call 72; refine (HC.out _ HR0.out).mono ?_; rintro e w' ⟨rfl, hb'⟩)
 go_ret2
 exact ⟨rfl, hb'⟩

/-! ### slices_Clone_impl_Cell: function 74 -/
-- PROOF --
-- NEEDS Derived.Lib.SliceRun
set_option maxHeartbeats 8000000 in
set_option maxRecDepth 100000 in
theorem slices_Clone_impl_Cell.calls (A0 : Option Addr) (c0 : Nat) (l0 : List (S49)) (r : List (S49)) (w : World) (hr0 : Kd.C k49 w A0 l0.length l0) (hc0 : l0.length ≤ c0) (h : slices_Clone_impl_Cell.f l0 = some r) :
  Calls Try.prog 74 #[.slice A0 l0.length c0] w fun e w' => ∃ v0_ : Value, e = .returned (v0_) ∧ Kd.R k49 49 w' w.heap.size (fun _ => True) v0_ r ∧ Below w.heap.size w w' := by
 have q22 : ∀ (w : World) (a : Option Addr) (n c n' c' : Nat), (binOp .eql 26 (.slice a n c) (.slice none n' c')).run Try.prog w = .ok (.bool a.isNone) w := fun w a n c n' c' => Lib.run_eql_slice_nil w _ _ a n c n' c' Try.underlying26
 rcases A0 with _ | ad0
 ·have hl : l0 = [] := by
   rcases Nat.eq_zero_or_pos l0.length with h0 | h0
   ·exact List.eq_nil_of_length_eq_zero h0
   ·obtain ⟨ad, e, _⟩ := hr0.2.2 h0
    cases e
  subst hl
  have hr : r = [] := by
   simp [slices_Clone_impl_Cell.f] at h
   first | exact h.symm | exact h
  subst hr
  go_enter Try.func74, Try.ntmps74
  go_wp2
  go_ret
  exact ⟨_, rfl, Kd.R_nil _ _ _ _ _, Below.refl _ _⟩
 ·have HR0 := Aside0.mk hr0
  have HC0 := Aside0.mk hc0
  clear hr0 hc0
  have HB := Aside0.mk (Below.refl w.heap.size w)
  have H : ((some (([] : List (S49)) : List (S49))).bind fun y161 => (if y161.length + l0.length < 8796093022208 then (some (y161 ++ l0)) else (none))) = some r := h
  clear h
  obtain ⟨y161, hy161⟩ : ∃ y_ : List (S49), y_ = (([] : List (S49))) := ⟨_, rfl⟩
  replace H : (if y161.length + l0.length < 8796093022208 then (some (y161 ++ l0)) else (none)) = some r := by first | (rw [hy161]; with_reducible exact H) | (have H2_ := (Option.bind_some _ _).symm.trans H; rw [hy161]; with_reducible exact H2_) | (have H2_ := (Option.bind_some _ _).symm.trans H; with_reducible exact H2_) | with_reducible exact H | (rw [hy161]; exact H) | exact H
  have Ny161 := Aside0.mk hy161
  clear hy161
  by_cases c2 : y161.length + l0.length < 8796093022208
  ·rw [if_pos c2] at H
   have LMc2 := Aside0.mk c2
   clear c2
   obtain ⟨y164, hy164⟩ : ∃ y_ : List (S49), y_ = (y161 ++ l0) := ⟨_, rfl⟩
   replace H : (some y164) = some r := by first | (rw [hy164]; with_reducible exact H) | (have H2_ := (Option.bind_some _ _).symm.trans H; rw [hy164]; with_reducible exact H2_) | (have H2_ := (Option.bind_some _ _).symm.trans H; with_reducible exact H2_) | with_reducible exact H | (rw [hy164]; exact H) | exact H
   have Ny164 := Aside0.mk hy164
   clear hy164
   obtain rfl := Option.some.inj H
   go_enter Try.func74, Try.ntmps74
   go_wp2_with (first | ((with_reducible refine gate_dst (N := 5) rfl ?_); refine Kd.R_lit k49 _ 49 ?hg (N := 5) ?hd (xs := ([] : List (S49))) (inner := []) (ok := fun _ => True) (okp := fun _ => True) ?hr ?hp (fun _ hk => hk) trivial (Below.refl _ _) (Nat.le_refl _) (by simp) ?_; (case hd => rfl); (case hg => rfl); (case hr => first | (go_simp; done) | (go_simp; rfl)); (case hp => exact (Reps.none _ _)); intro v162 w3 ho4 hb hg_ hnew_; clear hg_ hnew_; (first | rw [← Ny161.out] at ho4 | (simp only [Int.reduceToNat] at ho4; rw [← Ny161.out] at ho4)); have n0_ := Aside0.mk (Kd.R_lower ho4 (below_size (by repeat (first | (with_reducible first | exact HB.out | apply below_alloc | apply pw_below_drewN | apply below_drew1) | exact HB.out)))); have n1_ := Aside0.mk (below_step (by repeat (first | (with_reducible first | exact HB.out | apply below_alloc | apply pw_below_drewN | apply below_drew1) | exact HB.out)) hb); clear HB; have HO163 := n0_; have HB := n1_; clear n0_ n1_; clear hb ho4) | ((with_reducible refine gate_builtin (b := .append) (xs := #[.tmp 5, .tmp 6]) rfl ?_); at_builtin; refine Kd.R_append_rows k49 (w0 := w) w.heap.size rfl (.tmp 5) (.tmp 6) 26 49 (.agg #[(.int .i64 0), (.int .i64 0)]) 16 rfl Try.underlying26 info49 rfl (by decide) (by omega) v162 y161 l0 _ _ _ (fun _ => True) (fun _ => False) rfl rfl ?aO ?aR (fun _ _ h => h) (fun _ h => h.elim) ?aF ?aB ?aS ?aL ?_; (case aR => repeat (first | exact (Kd.C_below HR0.out HB.out) | (with_reducible refine Kd.C_alloc ?_ _) | (with_reducible refine Kd.C_drewN ?_ _) | (with_reducible refine Kd.C_drew ?_))); (case aB => exact (by repeat (first | (with_reducible first | exact HB.out | apply below_alloc | apply pw_below_drewN | apply below_drew1) | exact HB.out))); (case aF => exact (fun _ _ => trivial)); (case aO => exact (by (with_reducible repeat (first | apply Kd.R_alloc | apply Kd.R_drewN | apply Kd.R_drew)); exact HO163.out)); (case aS => exact (below_size (by repeat (first | (with_reducible first | exact HB.out | apply below_alloc | apply pw_below_drewN | apply below_drew1) | exact HB.out)))); (case aL => have := LMc2.out; omega); intro v165 w5 ho hb hg hat; rw [← Ny164.out] at ho; have n0_ := Aside0.mk (hb); have n1_ := Aside0.mk (ho); clear HB; clear HO163; have HB := n0_; have HO166 := n1_; clear n0_ n1_; clear ho hb hg hat))
   go_ret
   exact ⟨_, by first | rfl | (simp [errW_none, errW_some] <;> rfl) | (simp [*, errW_none, errW_some] <;> rfl), by (with_reducible repeat (first | apply Kd.R_alloc | apply Kd.R_drewN | apply Kd.R_drew)); exact HO166.out, by repeat (first | (with_reducible first | exact HB.out | apply below_alloc | apply pw_below_drewN | apply below_drew1) | exact HB.out)⟩
  ·rw [if_neg c2] at H
   exact absurd H (by simp)

end Go.Proofs.Ytpdfpbnlablhoaa.P
