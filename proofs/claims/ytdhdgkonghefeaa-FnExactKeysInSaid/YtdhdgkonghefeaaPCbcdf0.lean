-- Printed by this session's own program over the kit's print (wip/tools/mp.py). Not trusted: Lean checks it.
import Derived.Test.YtdhdgkonghefeaaP0
import Derived.Test.YtdhdgkonghefeaaPCall3
import Derived.Test.YtdhdgkonghefeaaPDm0
import Derived.Test.YtdhdgkonghefeaaWRepsOne
import Derived.Test.YtdhdgkonghefeaaLb
import Derived.Test.YtdhdgkonghefeaaLv
import Derived.IntWalk
import Derived.Shelf.Abstract
import Derived.Test.YtdhdgkonghefeaaZz
import Derived.Test.YtdhdgkonghefeaaLv
namespace Go.Proofs.Ytdhdgkonghefeaa.P
open Go.RowKit Go.Proofs.YtdhdgkonghefeaaW.PrintWords Go.Proofs.YtdhdgkonghefeaaW.PrintLast Go.Proofs.YtdhdgkonghefeaaW.PrintMore
attribute [local go_sem] max2_int min2_int max_two min_two max_three min_three max_four min_four   -- for this text's walks alone
set_option linter.unusedVariables false
set_option linter.unusedSimpArgs false

/-! ### spec_l4Path: function 47 -/
-- PROOF --
-- NEEDS Derived.Test.YtdhdgkonghefeaaLb
-- NEEDS Derived.Test.YtdhdgkonghefeaaLv
-- NEEDS Derived.IntWalk
-- NEEDS Derived.Shelf.Abstract
-- NEEDS Derived.Test.YtdhdgkonghefeaaZz
theorem kid_end {ks : List Int} {key : Int} {i : Nat} (h : ¬ i < ks.length) : kidAt (ks.drop i) key = 0 := by
 rw [List.drop_eq_nil_of_le (by omega)]; rfl
theorem kid_stop {ks : List Int} {key : Int} {i : Nat} (h : i < ks.length) (hx : ¬ ks.getD i 0 ≤ key) : kidAt (ks.drop i) key = 0 := by
 rw [Lb.getD_at h] at hx
 rw [List.drop_eq_getElem_cons h]; unfold kidAt; rw [List.takeWhile_cons_of_neg (by simpa using hx)]; rfl
theorem kid_step {ks : List Int} {key : Int} {i : Nat} (h : i < ks.length) (hx : ks.getD i 0 ≤ key) : kidAt (ks.drop i) key = 1 + kidAt (ks.drop (i + 1)) key := by
 rw [Lb.getD_at h] at hx
 rw [List.drop_eq_getElem_cons h]; unfold kidAt; rw [List.takeWhile_cons_of_pos (by simpa using hx), List.length_cons]; omega
set_option maxHeartbeats 4000000 in
set_option maxRecDepth 100000 in
theorem spec_l4Kid.at (p : Addr) (ks : List Int) (key : Int) (A1 : Option Addr) (c1 : Nat) (w : World) (q1 : w.cell? ⟨p.block, p.off + 1, none⟩ = some (.slice A1 ks.length c1)) (hr1 : Kd.C (Kd.int .i64) w A1 ks.length ks) :
  Calls Try.prog 69 #[.pointer (some p), .int .i64 key] w fun e w' => e = .returned (.int .i64 ((kidAt ks key : Nat) : Int)) ∧ Below w.heap.size w w' := by
 have hu58 := Try.underlying58
 have hl := hr1.2.1
 have HR := Aside0.mk hr1
 have Q1 := Aside0.mk q1
 clear hr1 q1
 have HB := Aside0.mk (Below.refl w.heap.size w)
 obtain ⟨r, hr⟩ : ∃ r, kidAt ks key = r := ⟨_, rfl⟩
 rw [hr]
 have HA0 := Aside0.mk hr
 clear hr
 go_enter Try.func69, Try.ntmps69
 go_wp2
 go_loopg [5] (ks.length + 1) (fun gg v5 wr => ∃ i : Nat, v5 = .int .i64 (i : Int) ∧ Aside0 (i ≤ ks.length) ∧ Aside0 (ks.length - i < gg) ∧ Aside0 (i + kidAt (ks.drop i) key = r) ∧ Aside0 (Below w.heap.size w wr))
 case atStart => exact ⟨0, rfl, ⟨by omega⟩, ⟨by omega⟩, ⟨by rw [Nat.zero_add, List.drop_zero]; exact HA0.out⟩, HB⟩
 case round =>
  clear HB HA0
  obtain ⟨i, rfl, HI, HG, HA, HB⟩ := hrel
  have d1_ := pw_cell_below HB.out Q1.out
  by_cases hlt : i < ks.length
  ·have g0 : (0 : Int) ≤ (i : Int) := by omega
   have g1 : (i : Int) < (ks.length : Int) := by omega
   have c3 : decide ((i : Int) < (ks.length : Int)) = true := decide_eq_true g1
   have c3' : decide (i < ks.length) = true := decide_eq_true hlt
   obtain ⟨ak, ea, hk_⟩ := Kd.at_int HR.out (i : Int) g0 g1
   cases ea
   obtain ⟨X, hX⟩ : ∃ x, x = ks.getD i 0 := ⟨_, rfl⟩
   rw [show rd ks (i : Int) = X from hX.symm, show (i : Int).toNat = i from Int.toNat_natCast i] at hk_
   replace hk_ := pw_cell_below HB.out hk_
   by_cases hle : X ≤ key
   ·have HS := Aside0.mk (show (i + 1) + kidAt (ks.drop (i + 1)) key = r from by have := HA.out; rw [kid_step hlt (by rw [← hX]; exact hle)] at this; omega)
    have e1 : decide (X ≤ key) = true := decide_eq_true hle
    clear hle hX
    go_wp2
    go_roundg (ks.length - i)
    case measure => have := HG.out; omega
    case rel => exact ⟨i + 1, by first | rfl | rw [Lb.w64n (by omega)] | go_num, ⟨by omega⟩, ⟨by omega⟩, HS, HB⟩
   ·have hE : i = r := by have := HA.out; rw [kid_stop hlt (by rw [← hX]; exact hle)] at this; omega
    have e1 : decide (X ≤ key) = false := decide_eq_false hle
    clear hle hX
    subst hE
    go_wp2
    go_ret
    exact ⟨rfl, HB.out⟩
  ·have hE : i = r := by have := HA.out; rw [kid_end hlt] at this; omega
   have c3 : decide ((i : Int) < (ks.length : Int)) = false := decide_eq_false (by omega)
   have c3' : decide (i < ks.length) = false := decide_eq_false hlt
   subst hE
   go_wp2
   go_ret
   exact ⟨rfl, HB.out⟩
set_option maxHeartbeats 8000000 in
set_option maxRecDepth 100000 in
theorem spec_l4Path.at (tp : Addr) (root key : Int) (nodes : List S58) (AN : Option Addr) (cN : Nat) (p : List Int) (w : World) (q0 : w.cell? tp = some (.int .i64 root)) (q1 : w.cell? ⟨tp.block, tp.off + 1, none⟩ = some (.slice AN nodes.length cN)) (hr : Kd.C k58 w AN nodes.length nodes) (hc : ∀ n ∈ nodes, n.f0 = false → n.f2.length = n.f1.length + 1) (hkd : kidsOk nodes) (hnn : nodes.length ≤ 60) (h0 : 0 ≤ root) (h1 : root < (nodes.length : Int)) (h : pathW nodes key 61 root = some p) :
  Calls Try.prog 47 #[.pointer (some tp), .int .i64 key] w fun e w' => ∃ v : Value, e = .returned v ∧ Kd.R (Kd.int .i64) 2 w' w.heap.size (fun _ => True) v p ∧ Below w.heap.size w w' := by
 have hu58 := Try.underlying58
 have hu29 := Try.underlying29
 have HR := Aside0.mk hr
 have Q0 := Aside0.mk q0
 have Q1 := Aside0.mk q1
 have HC := Aside0.mk hc
 have HKD := Aside0.mk hkd
 have HP := Aside0.mk h
 clear hr q0 q1 hc hkd h
 have d0_ := Q0.out
 have d1_ := Q1.out
 go_enter Try.func47, Try.ntmps47
 go_wp2_with ((with_reducible refine gate_dst (N := 11) rfl ?_); refine Kd.R_lit (Kd.int .i64) (w0 := w) w.heap.size 2 ?hg (N := 11) ?hd (xs := [root]) (inner := [.int .i64 root]) (ok := fun _ => True) (okp := fun _ => True) ?hr ?hp (fun _ hk => hk) trivial (Below.refl _ _) (Nat.le_refl _) (by simp) ?_; (case hd => rfl); (case hg => rfl); (case hr => first | (go_simp; done) | (go_simp; rfl)); (case hp => exact (Kd.reps_scalar [root])); intro v1 w1 ho1 hb1 hg1 hn1; clear hg1 hn1; have HO := Aside0.mk ho1; have HB := Aside0.mk hb1; clear ho1 hb1; have d0_ := pw_cell_below HB.out Q0.out; have d1_ := pw_cell_below HB.out Q1.out)
 go_loopg [5, 6] 61 (fun gg v5 v6 wr => ∃ (acc q : List Int) (at_ : Int), v6 = .int .i64 at_ ∧ Aside0 (0 ≤ at_ ∧ at_ < (nodes.length : Int)) ∧ Aside0 (pathW nodes key gg at_ = some q) ∧ Aside0 (acc ++ q = p) ∧ Aside0 (acc.length + gg ≤ 61) ∧ Aside0 (Kd.R (Kd.int .i64) 2 wr w.heap.size (fun _ => True) v5 (acc ++ [at_])) ∧ Aside0 (Below w.heap.size w wr))
 case atStart => exact ⟨[], p, root, rfl, ⟨h0, h1⟩, HP, ⟨rfl⟩, ⟨by simp⟩, HO, HB⟩
 case round =>
  clear HO HB HP h0 h1 d0_ d1_
  obtain ⟨acc, q, at_, rfl, HAT, HP, HE, HL, HO, HB⟩ := hrel
  obtain ⟨h0, h1⟩ := HAT.out
  have dt0_ := pw_cell_below HB.out Q0.out
  have dt_ := pw_cell_below HB.out Q1.out
  obtain ⟨ad, A1, c1, A2, c2, ea, hx0, hx1, hx2, hl1, hi1, hl2, hi2⟩ := at_T58 HR.out at_ h0 h1
  cases ea
  have hmem := getD_mem h0 h1
  have hrd : rd_T58 nodes at_ = nodes.getD at_.toNat z58 := rfl
  rw [hrd] at hx0 hx1 hx2 hl1 hi1 hl2 hi2
  cases gk with
  | zero => exact absurd HP.out (by simp [pathW])
  | succ k1 =>
   have hp := HP.out
   unfold pathW at hp
   obtain ⟨n, hn⟩ : ∃ n, n = nodes.getD at_.toNat z58 := ⟨_, rfl⟩
   rw [← hn] at hmem hx0 hx1 hx2 hl1 hi1 hl2 hi2 hp
   clear hn hrd HP
   rcases n with ⟨lf, ks, ds⟩
   simp only at hx0 hx1 hx2 hl1 hi1 hl2 hi2 hp
   have hlen := HC.out _ hmem
   have hkm := HKD.out _ hmem
   simp only at hlen hkm
   have HX1 := Aside0.mk (pw_cell_below HB.out hx1)
   have HX2 := Aside0.mk (pw_cell_below HB.out hx2)
   have HI1 := Aside0.mk (Kd.C_below hi1 HB.out)
   have HI2 := Aside0.mk hi2
   replace hx0 := pw_cell_below HB.out hx0
   clear hx1 hx2 hi1 hi2 hmem
   cases lf with
   | true =>
    rw [if_pos rfl] at hp
    cases hp
    go_wp2
    go_ret
    exact ⟨_, rfl, by rw [← HE.out]; exact HO.out, HB.out⟩
   | false =>
    rw [if_neg (by decide)] at hp
    obtain ⟨q2, hq2, hq3⟩ := Option.map_eq_some_iff.1 hp
    have hln := hlen rfl
    have hka := kidAt_le ks key
    have hj : kidAt ks key < ds.length := by omega
    have hki := hkm _ (kid_mem (n := ⟨false, ks, ds⟩) hj)
    simp only at hki
    obtain ⟨j, hjj⟩ : ∃ j, j = kidAt ks key := ⟨_, rfl⟩
    rw [← hjj] at hj hki hq2
    have HJ := Aside0.mk hjj
    obtain ⟨ak, ea, hk_⟩ := Kd.at_int HI2.out (j : Int) (by omega) (by omega)
    cases ea
    obtain ⟨X, hX⟩ : ∃ x, x = ds.getD j 0 := ⟨_, rfl⟩
    rw [show rd ds (j : Int) = X from hX.symm, show (j : Int).toNat = j from Int.toNat_natCast j] at hk_
    rw [← hX] at hki hq2
    have HKC := Aside0.mk (pw_cell_below HB.out hk_)
    have HQ := Aside0.mk hq2
    have HQ3 := Aside0.mk hq3
    have HKI := Aside0.mk hki
    clear hjj hX hk_ hq2 hq3 hki hkm hlen hp hka hln
    have hjI : (j : Int) < (ds.length : Int) := by omega
    go_wp2
    refine start_ (n := 19) (S := fun W_ => W_.cell? ⟨tp.block, tp.off + 1, none⟩ = some (.slice (some ad) nodes.length cN) ∧ W_.cell? ⟨(ad.add (at_.toNat * 3)).block, (ad.add (at_.toNat * 3)).off + 2, none⟩ = some (.slice (some ak) ds.length c2) ∧ W_.cell? (ak.add j) = some (.int .i64 X)) (ds := []) #[false, false, false, false, false, false, false, false, false, false, false, false, false, false, false, false, false, false, false] (by kernel_rfl) rfl rfl ⟨dt_, HX2.out, HKC.out⟩ (fun hHeld => ?_)
    have HB1 := Aside0.mk (below_drew1 HB.out)
    have HO1 := Aside0.mk (Kd.R_drew HO.out)
    replace HX1 := Aside0.mk (show wr.drew.cell? _ = _ from HX1.out)
    replace HI1 := Aside0.mk (Kd.C_drew HI1.out)
    clear HB HO HX2 HKC dt0_ dt_ hx0
    generalize wr.drew = w2 at HB1 HO1 HX1 HI1 hHeld ⊢
    refine zp 0 25 ?_; refine zp 1 26 ?_; refine zp 2 27 ?_; refine zp 4 29 ?_; refine zp 8 33 ?_; refine zp 9 34 ?_; refine zp 10 35 ?_; refine zp 12 37 ?_; refine zp 14 39 ?_; refine zt 3 28 ?_; refine zp 5 30 ?_; refine zp 6 31 ?_; refine zt 7 32 ?_; refine zt 11 36 ?_; refine zp 13 38 ?_
    refine one_ (i := 15) (N := some 40) #[true, true, true, true, true, true, true, true, true, true, true, true, true, true, true, true, false, false, false] rfl rfl (by kernel_rfl) (by decide) (fun K hK => ?_)
    refine goes_ Try.func69 (by kernel_rfl) rfl #[.pointer (some (ad.add (at_.toNat * 3))), .int .i64 key] (by rfl) rfl rfl zm ?_
    refine (spec_l4Kid.at (ad.add (at_.toNat * 3)) ks key A1 c1 _ HX1.out HI1.out).mono ?_
    rintro e w3 ⟨rfl, hb3⟩
    rw [← HJ.out]
    refine ⟨_, rfl, ?_⟩
    have HB3 := Aside0.mk hb3
    clear hb3
    refine hK.out _ _ ⟨pw_cell_below HB3.out hHeld.1, pw_cell_below HB3.out hHeld.2.1, pw_cell_below HB3.out hHeld.2.2⟩ (fun hHeld => ?_)
    clear hK K
    refine norm_ (a' := ?_) ?_ ?_
    rotate_left
    ·show Act.put _ (some 40) _ = _
     simp only [Act.put, List.setIfInBounds_toArray, List.set_cons_zero, List.set_cons_succ, i64_w, i32_w]
     rfl
    refine zp 16 41 ?_; refine zt 17 42 ?_; refine zp 18 6 ?_
    refine done_ (by kernel_rfl) ?_
    clear hHeld
    have HB4 := Aside0.mk (below_step HB1.out HB3.out)
    have HO4 := Aside0.mk (Kd.R_below HO1.out HB3.out)
    clear HB1 HO1 HB3 HX1 HI1
    have hal := HL.out
    skip
    go_wp2_with ((with_reducible refine gate_builtin (b := .append) (xs := #[.tmp 43, .tmp 45]) rfl ?_); at_builtin; refine Kd.R_append (Kd.int .i64) (w0 := w) w.heap.size rfl (.tmp 43) (.tmp 45) 39 2 (.int .i64 0) 8 rfl Try.underlying39 info2 rfl (by decide) (by omega) _ (acc ++ [at_]) X [.int .i64 X] (fun _ => True) (fun _ => False) rfl rfl ?aP (fun _ hk => hk.elim) ?aF ?aO ?aB ?aS ?aL ?_; (case aP => exact rfl); (case aB => exact HB4.out); (case aF => exact (fun _ _ => trivial)); (case aO => exact HO4.out); (case aS => exact HB4.out.size); (case aL => simp only [List.length_append, List.length_singleton]; omega); intro v6 w6 ho6 hb6 hg6 ha6; have HO6 := Aside0.mk ho6; have HB6 := Aside0.mk hb6; clear ho6 hb6 hg6 ha6)
    go_roundg k1
    case measure => omega
    case rel => exact ⟨acc ++ [at_], q2, X, rfl, HKI, HQ, ⟨by rw [List.append_assoc, List.singleton_append, HQ3.out]; exact HE.out⟩, ⟨by simp only [List.length_append, List.length_singleton]; omega⟩, HO6, HB6⟩
theorem treeF_ok {root : Int} {nodes : List S58} (h : treeF root nodes = 0) : 1 ≤ nodes.length ∧ nodes.length ≤ 60 ∧ (∀ n ∈ nodes, n.f1.length ≤ 3 ∧ n.f2.length ≤ 4 ∧ (n.f0 = false → n.f2.length = n.f1.length + 1)) ∧ kidsOk nodes ∧ 0 ≤ root ∧ root < (nodes.length : Int) ∧ ∀ key, ∃ p, pathW nodes key 61 root = some p := by
 unfold treeF at h
 by_cases h1 : (nodes.length : Int) < 1
 ·rw [if_pos h1] at h; cases h
 rw [if_neg h1] at h
 by_cases h2 : (60 : Int) < (nodes.length : Int)
 ·rw [if_pos h2] at h; cases h
 rw [if_neg h2] at h
 by_cases hq : scanI (fun i => nodeF nodes.length (nodes.getD i z58)) nodes.length 0 = 0
 ·rw [if_pos hq] at h
  obtain ⟨hlen, hkid⟩ := nodes_ok (by omega) (by omega) hq
  by_cases hb : inB root 0 (wrap64 ((nodes.length : Int) - 1)) = true
  ·rw [if_pos hb] at h
   have hi := inB_iff.1 hb
   rw [Lb.w64 (by omega) (by omega)] at hi
   refine ⟨by omega, by omega, hlen, hkid, hi.1, by omega, fun key => ?_⟩
   cases hw : walkW nodes 61 ⟨[], 0, false⟩ root 0 10001 1 with
   | none => 
    obtain ⟨g', hw2, -⟩ := walkW_some hkid 61 ⟨[], 0, false⟩ root 0 10001 1 ⟨List.nodup_nil, fun x hx => absurd hx (by simp)⟩ hi.1 (by omega) (by simp only [List.length_nil]; omega)
    rw [hw] at hw2; cases hw2
   | some g =>
    rw [hw] at h
    simp only [treeEnd] at h
    cases hbad : g.bad with
    | true => rw [if_pos hbad] at h; cases h
    | false => exact walkW_path (fun n hn => (hlen n hn).2.2) hkid key 61 _ _ _ _ _ g hi.1 (by omega) hw hbad
  ·rw [if_neg hb] at h; cases h
 ·rw [if_neg hq] at h; exact absurd h hq
theorem spec_l4Path.calls {g : Nat} (s0_0 : Int) (A1 : Option Addr) (c1 : Nat) (s0_1 : List (S58)) (a1 : Int) (r : List Int) (w : World) (hr1 : Kd.C k58 w A1 s0_1.length s0_1) (hc1 : s0_1.length ≤ c1) (h : spec_l4Path.f s0_0 s0_1 a1 = some r)
  (hbx : Aside0 (w.heap[g]? = some (.cells #[.int .i64 s0_0, .slice A1 s0_1.length c1] 29 (0, 0))) := by assumption) :
  Calls Try.prog 47 #[.pointer (some ⟨g, 0, none⟩), .int .i64 a1] w fun e w' => ∃ v0_ : Value, e = .returned (v0_) ∧ Kd.R (Kd.int .i64) 2 w' w.heap.size (fun _ => True) v0_ r ∧ Below w.heap.size w w' := by
 unfold spec_l4Path.f at h
 by_cases ht : treeF s0_0 s0_1 = 0
 ·rw [if_pos ht] at h
  obtain ⟨_, h2, h3, h4, h5, h6, _⟩ := treeF_ok ht
  exact spec_l4Path.at ⟨g, 0, none⟩ s0_0 a1 s0_1 A1 c1 r w ((blk_cell hbx.out 0).trans rfl) ((blk_cell hbx.out 1).trans rfl) hr1 (fun n hn => (h3 n hn).2.2) h4 h2 h5 h6 h
 ·rw [if_neg ht] at h; cases h


-- NEEDS Derived.Test.@N@Lv
/-! ### impl_Tree_path: function 48 -/
set_option maxHeartbeats 8000000 in
set_option maxRecDepth 100000 in
theorem impl_Tree_path.calls (k : Nat) (a0_0 : Int) (A0_1 : Option Addr) (c0_1 : Nat) (l0_1 : List (S58)) (a1 : Int) (r : List Int) (w : World) (hr0_1 : Kd.C k58 w A0_1 l0_1.length l0_1) (hc0_1 : l0_1.length ≤ c0_1) (h : impl_Tree_path.f k a0_0 l0_1 a1 = some r) :
  Calls Try.prog 48 #[.agg #[.int .i64 a0_0, .slice A0_1 l0_1.length c0_1], .int .i64 a1] w fun e w' => ∃ v0_ : Value, e = .returned (v0_) ∧ Kd.R (Kd.int .i64) 2 w' w.heap.size (fun _ => True) v0_ r ∧ Below w.heap.size w w' := by
 have hu29 := Try.underlying29
 have hu58 := Try.underlying58
 have HR0_1 := Aside0.mk hr0_1
 have HC0_1 := Aside0.mk hc0_1
 clear hr0_1 hc0_1
 have HB := Aside0.mk (Below.refl w.heap.size w)
 have H : (impl_Tree_path.l0 k a1 (([] : List Int)) a0_0 a0_0 l0_1) = some r := h
 clear h
 obtain ⟨y185, hy185⟩ : ∃ y_ : List Int, y_ = (([] : List Int)) := ⟨_, rfl⟩
 replace H : (impl_Tree_path.l0 k a1 y185 a0_0 a0_0 l0_1) = some r := by first | (rw [hy185]; with_reducible exact H) | (have H2_ := (Option.bind_some _ _).symm.trans H; rw [hy185]; with_reducible exact H2_) | (have H2_ := (Option.bind_some _ _).symm.trans H; with_reducible exact H2_) | with_reducible exact H | (rw [hy185]; exact H) | exact H
 have Ny185 := Aside0.mk hy185
 clear hy185
 have H' := Aside0.mk H
 clear H
 go_enter Try.func48, Try.ntmps48
 try go_wp2_with (first | ((with_reducible refine gate_dst (N := 2) rfl ?_); refine box_event ?hg (N := 2) ?hd (cs := #[.int .i64 a0_0, .slice A0_1 l0_1.length c0_1]) (t := 29) ?hr ?_; (case hd => rfl); (case hg => rfl); (case hr => first | (go_simp; done) | (go_simp; rfl)); intro gb184 hg w3 hbox hb; have n0_ := Aside0.mk (below_step (by repeat (first | (with_reducible first | exact HB.out | apply below_alloc | apply pw_below_drewN | apply below_drew1) | exact HB.out)) hb); have n1_ := Aside0.mk (hbox); have n2_ := Aside0.mk ((by rw [hg]; exact (below_size (by repeat (first | (with_reducible first | exact HB.out | apply below_alloc | apply pw_below_drewN | apply below_drew1) | exact HB.out))) : w.heap.size ≤ gb184)); have n3_ := Aside0.mk ((by rw [hg]; exact (below_size (by repeat (first | (with_reducible first | exact HB.out | apply below_alloc | apply pw_below_drewN | apply below_drew1) | exact HB.out))) : w.heap.size ≤ gb184)); clear HB; have HB := n0_; have BK184 := n1_; have GW184 := n2_; have GE184 := n3_; clear n0_ n1_ n2_ n3_; clear hb hbox hg))
 have n0_ := Aside0.mk (blk_drew BK184.out)
 have n1_ := Aside0.mk (below_drew1 HB.out)
 clear BK184
 clear HB
 have BK184 := n0_
 have HB := n1_
 clear n0_ n1_
 refine start_ (n := 5) (S := fun w' => w'.cell? ⟨gb184, 0, none⟩ = some (.int .i64 a0_0) ∧ w'.cell? ⟨gb184, 1, none⟩ = some (.slice A0_1 l0_1.length c0_1)) (ds := []) #[false, false, false, false, false] (by kernel_rfl) rfl rfl ⟨(blk_cell BK184.out 0).trans rfl, (blk_cell BK184.out 1).trans rfl⟩ (fun hHeld => ?_)
 generalize w3.drew = w4 at BK184 HB hHeld ⊢
 refine pure_ (i := 1) (N := some 10) (v := ?_) (a' := ?_) #[false, true, false, false, false] rfl rfl (by kernel_rfl) (fun _ _ _ h => h) (Or.inl ⟨by rfl, ?_⟩) ?_ ?_
 rotate_left
 ·intro w'
  go_simp
  with_reducible rfl
 rotate_left
 ·simp only [Act.put, List.setIfInBounds_toArray, List.set_cons_zero, List.set_cons_succ, i64_w, i32_w]
  rfl
 refine take_ (i := 2) (N := some 11) (v := ?_) (a' := ?_) #[false, true, true, false, false] rfl rfl (by kernel_rfl) (fun _ _ _ h => h) (Or.inl ⟨by rfl, ?_⟩) hHeld ?_ ?_
 rotate_left
 ·rintro w' ⟨s0, s1⟩
  go_simp
  with_reducible rfl
 rotate_left
 ·simp only [Act.put, List.setIfInBounds_toArray, List.set_cons_zero, List.set_cons_succ, i64_w, i32_w]
  rfl
 refine one_ (i := 0) (N := some 9) #[true, true, true, false, false] rfl rfl (by kernel_rfl) (by decide) (fun K hK => ?_)
 refine Kd.R_lit_step (Kd.int .i64) _ 2 ?hg (N := 9) ?hd (xs := ([] : List Int)) (inner := []) (ok := fun _ => True) (okp := fun _ => True) ?hr ?hp (fun _ hk => hk) trivial (Below.refl _ _) (Nat.le_refl _) (by simp) ?_; (case hd => rfl); (case hg => rfl); (case hr => first | (go_simp; done) | (go_simp; rfl)); (case hp => exact (Reps.none _ _))
 intro v186 w5 ho6 hb hg_ hnew_
 clear hg_ hnew_
 (first | rw [← Ny185.out] at ho6 | (simp only [Int.reduceToNat] at ho6; rw [← Ny185.out] at ho6))
 have n0_ := Aside0.mk (Kd.R_lower ho6 (below_size (by repeat (first | (with_reducible first | exact HB.out | apply below_alloc | apply pw_below_drewN | apply below_drew1 | refine below_set ?_ GE184.out) | exact HB.out))))
 have n1_ := Aside0.mk (blk_below (g := gb184) (o := .cells #[.int .i64 a0_0, .slice A0_1 l0_1.length c0_1] 29 (0, 0)) (by (with_reducible repeat (first | refine blk_drewN ?_ _ | refine blk_drew ?_ | refine blk_alloc ?_ _)); exact BK184.out) hb)
 have n2_ := Aside0.mk (below_step (by repeat (first | (with_reducible first | exact HB.out | apply below_alloc | apply pw_below_drewN | apply below_drew1 | refine below_set ?_ GE184.out) | exact HB.out)) hb)
 clear BK184
 clear HB
 have HO187 := n0_
 have BK184 := n1_
 have HB := n2_
 clear n0_ n1_ n2_
 clear hb ho6
 refine hK.out _ _ ⟨(blk_cell BK184.out 0).trans rfl, (blk_cell BK184.out 1).trans rfl⟩ (fun hHeld => ?_)
 clear hK K
 refine norm_ (a' := ?_) ?_ ?_
 rotate_left
 ·show Act.put _ (some 9) _ = _
  simp only [Act.put, List.setIfInBounds_toArray, List.set_cons_zero, List.set_cons_succ, i64_w, i32_w]
  rfl
 refine pure_ (i := 3) (N := some 5) (v := ?_) (a' := ?_) #[true, true, true, true, false] rfl rfl (by kernel_rfl) (fun _ _ _ h => h) (Or.inl ⟨by rfl, ?_⟩) ?_ ?_
 rotate_left
 ·intro w'
  go_simp
  with_reducible rfl
 rotate_left
 ·simp only [Act.put, List.setIfInBounds_toArray, List.set_cons_zero, List.set_cons_succ, i64_w, i32_w]
  rfl
 refine pure_ (i := 4) (N := some 6) (v := ?_) (a' := ?_) #[true, true, true, true, true] rfl rfl (by kernel_rfl) (fun _ _ _ h => h) (Or.inl ⟨by rfl, ?_⟩) ?_ ?_
 rotate_left
 ·intro w'
  go_simp
  with_reducible rfl
 rotate_left
 ·simp only [Act.put, List.setIfInBounds_toArray, List.set_cons_zero, List.set_cons_succ, i64_w, i32_w]
  rfl
 refine done_ (by kernel_rfl) ?_
 try go_wp2
 go_loopg [5, 6] k (fun kq v5 v6 w' => ∃ (x5_1 : List Int) (x6_1 : Int), v6 = .int .i64 x6_1 ∧ Aside0 (impl_Tree_path.l0 kq a1 x5_1 x6_1 a0_0 l0_1 = some r) ∧ Aside0 (kq ≤ k) ∧ Aside0 (Kd.R (Kd.int .i64) 2 w' w.heap.size (fun _ => True) v5 x5_1) ∧ Aside0 (w'.heap[gb184]? = some (.cells #[.int .i64 a0_0, (.slice A0_1 l0_1.length c0_1)] 29 (0, 0))) ∧ Aside0 (Below w.heap.size w w'))
 case atStart => exact ⟨(y185), (a0_0), (by first | rfl | (simp; done) | (simp [*]; done)), H', ⟨Nat.le_refl _⟩, ⟨by (with_reducible repeat (first | apply Kd.R_alloc | apply Kd.R_drewN | apply Kd.R_drew)); exact HO187.out⟩, ⟨by (with_reducible repeat (first | refine blk_drewN ?_ _ | refine blk_drew ?_ | refine blk_alloc ?_ _)); exact BK184.out⟩, ⟨by repeat (first | (with_reducible first | exact HB.out | apply below_alloc | apply pw_below_drewN | apply below_drew1 | refine below_set ?_ GE184.out) | exact HB.out)⟩⟩
 case round =>
  clear H'
  try clear p2
  try clear c4
  obtain ⟨x5_1, x6_1, rfl, HA, HK1, HO_5, BK184, HB⟩ := hrel
  cases gk with
  | zero => exact absurd HA.out (by simp [impl_Tree_path.l0])
  | succ k1 =>
   have H := HA.out
   clear HA
   simp only [impl_Tree_path.l0] at H
   by_cases c7 : x5_1.length < 17592186044416
   ·rw [if_pos c7] at H
    have LMc7 := Aside0.mk c7
    clear c7
    obtain ⟨y188, hy188⟩ : ∃ y_ : List Int, y_ = (x5_1 ++ [x6_1]) := ⟨_, rfl⟩
    replace H : (if 0 ≤ x6_1 then (if x6_1 < (l0_1.length : Int) then (if (rd_T58 l0_1 x6_1).f0 = true then (some y188) else (impl_Tree_path.l1 k1 a1 y188 0 a0_0 l0_1 ((rd_T58 l0_1 x6_1).f0) ((rd_T58 l0_1 x6_1).f1) ((rd_T58 l0_1 x6_1).f2))) else (none)) else (none)) = some r := by first | (rw [hy188]; with_reducible exact H) | (have H2_ := (Option.bind_some _ _).symm.trans H; rw [hy188]; with_reducible exact H2_) | (have H2_ := (Option.bind_some _ _).symm.trans H; with_reducible exact H2_) | with_reducible exact H | (rw [hy188]; exact H) | exact H
    have Ny188 := Aside0.mk hy188
    clear hy188
    by_cases c8 : 0 ≤ x6_1
    ·rw [if_pos c8] at H
     have c8b0 : decide (0 ≤ x6_1) = true := decide_eq_true c8
     clear c8
     by_cases c9 : x6_1 < (l0_1.length : Int)
     ·rw [if_pos c9] at H
      have c9b0 : decide (x6_1 < (l0_1.length : Int)) = true := decide_eq_true c9
      clear c9
      obtain ⟨bq10, hbq10⟩ : ∃ b_ : Bool, b_ = ((rd_T58 l0_1 x6_1).f0) := ⟨_, rfl⟩
      replace H : (if bq10 = true then (some y188) else (impl_Tree_path.l1 k1 a1 y188 0 a0_0 l0_1 bq10 ((rd_T58 l0_1 x6_1).f1) ((rd_T58 l0_1 x6_1).f2))) = some r := by rw [← hbq10] at H; exact H
      have Nbq10 := Aside0.mk hbq10
      clear hbq10
      by_cases c11 : bq10 = true
      ·subst c11
       have H1 : (some y188) = some r := by rw [if_pos rfl] at H; exact H
       clear H
       have H := H1
       clear H1
       obtain rfl := Option.some.inj H
       go_wp2_with (first | ((with_reducible refine gate_builtin (b := .append) (xs := #[.tmp 12, .tmp 14]) rfl ?_); at_builtin; refine Kd.R_append (Kd.int .i64) (w0 := w) w.heap.size rfl (.tmp 12) (.tmp 14) 39 2 (.int .i64 0) 8 rfl Try.underlying39 info2 rfl (by decide) (by omega) u5 x5_1 x6_1 [.int .i64 x6_1] (fun _ => True) (fun _ => False) rfl rfl ?aP (fun _ hk => hk.elim) ?aF ?aO ?aB ?aS ?aL ?_; (case aP => exact rfl); (case aB => exact (by repeat (first | (with_reducible first | exact HB.out | apply below_alloc | apply pw_below_drewN | apply below_drew1 | refine below_set ?_ GE184.out) | exact HB.out))); (case aF => exact (fun _ _ => trivial)); (case aO => exact (by (with_reducible repeat (first | apply Kd.R_alloc | apply Kd.R_drewN | apply Kd.R_drew)); exact HO_5.out)); (case aS => exact (below_size (by repeat (first | (with_reducible first | exact HB.out | apply below_alloc | apply pw_below_drewN | apply below_drew1 | refine below_set ?_ GE184.out) | exact HB.out)))); (case aL => have := LMc7.out; omega); intro v189 w12 ho hb hg hat; rw [← Ny188.out] at ho; have n0_ := Aside0.mk (blk_grown (g := gb184) (o := .cells #[.int .i64 a0_0, .slice A0_1 l0_1.length c0_1] 29 (0, 0)) (by (with_reducible repeat (first | refine blk_drewN ?_ _ | refine blk_drew ?_ | refine blk_alloc ?_ _)); exact BK184.out) hg (Kd.R_ne HO_5.out BK184.out (by decide))); have n1_ := Aside0.mk (hb); have n2_ := Aside0.mk (ho); clear BK184; clear HB; clear HO_5; have BK184 := n0_; have HB := n1_; have HO190 := n2_; clear n0_ n1_ n2_; clear ho hb hg hat; obtain ⟨hcz13_0, hcz13_1, hfz13_0, hfz13_1⟩ := Go.Proofs.Ytdhdgkonghefeaa.Lv.blks2 BK184.out; have p191 : 0 ≤ (x6_1 : Int) := of_decide_eq_true (by first | (with_reducible assumption) | assumption); have q191 : x6_1 < (l0_1.length : Int) := of_decide_eq_true (by first | (with_reducible assumption) | assumption); obtain ⟨ad191, A191_1, c191_1, A191_2, c191_2, e191, hx191_0, hx191_1, hx191_2, hl191_1, hi191_1, hl191_2, hi191_2⟩ := at_T58 HR0_1.out x6_1 p191 q191; (try rw [← Nbq10.out] at hx191_0); cases e191; replace hx191_0 := (HB.out.cell (World.block_lt_of_cell? w _ hx191_0)).trans hx191_0; replace hx191_1 := (HB.out.cell (World.block_lt_of_cell? w _ hx191_1)).trans hx191_1; replace hx191_2 := (HB.out.cell (World.block_lt_of_cell? w _ hx191_2)).trans hx191_2; have HR191_1 := Aside0.mk hi191_1; have HC191_1 := Aside0.mk hl191_1; clear hi191_1 hl191_1; have HR191_2 := Aside0.mk hi191_2; have HC191_2 := Aside0.mk hl191_2; clear hi191_2 hl191_2; replace p191 := eq_true p191; replace q191 := eq_true q191) | ((with_reducible refine gate_dst (N := 7) rfl ?_); refine box_event ?hg (N := 7) ?hd (cs := #[.bool false, .slice none 0 0, .slice none 0 0]) (t := 58) ?hr ?_; (case hd => rfl); (case hg => rfl); (case hr => first | (go_simp; done) | (go_simp; rfl)); intro gb192 hg w14 hbox hb; have n0_ := Aside0.mk (Kd.R_below (by (with_reducible repeat (first | apply Kd.R_alloc | apply Kd.R_drewN | apply Kd.R_drew)); exact HO190.out) hb); have n1_ := Aside0.mk (blk_below (g := gb184) (o := .cells #[.int .i64 a0_0, .slice (some ad191) l0_1.length c0_1] 29 (0, 0)) (by (with_reducible repeat (first | refine blk_drewN ?_ _ | refine blk_drew ?_ | refine blk_alloc ?_ _)); exact BK184.out) hb); have n2_ := Aside0.mk (below_step (by repeat (first | (with_reducible first | exact HB.out | apply below_alloc | apply pw_below_drewN | apply below_drew1 | refine below_set ?_ GE184.out) | exact HB.out)) hb); have n3_ := Aside0.mk (hbox); have n4_ := Aside0.mk ((by rw [hg]; exact (below_size (by repeat (first | (with_reducible first | exact HB.out | apply below_alloc | apply pw_below_drewN | apply below_drew1 | refine below_set ?_ GE184.out) | exact HB.out))) : w.heap.size ≤ gb192)); have n5_ := Aside0.mk ((by rw [hg]; exact (below_size (by repeat (first | (with_reducible first | exact HB.out | apply below_alloc | apply pw_below_drewN | apply below_drew1 | refine below_set ?_ GE184.out) | exact HB.out))) : w.heap.size ≤ gb192)); have n6_ := Aside0.mk ((by rw [hg]; exact Nat.ne_of_lt (blk_lt (g := gb184) (o := .cells #[.int .i64 a0_0, .slice (some ad191) l0_1.length c0_1] 29 (0, 0)) (by (with_reducible repeat (first | refine blk_drewN ?_ _ | refine blk_drew ?_ | refine blk_alloc ?_ _)); exact BK184.out)) : gb184 ≠ gb192)); have n7_ := Aside0.mk ((by rw [hg]; exact Nat.ne_of_gt (blk_lt (g := gb184) (o := .cells #[.int .i64 a0_0, .slice (some ad191) l0_1.length c0_1] 29 (0, 0)) (by (with_reducible repeat (first | refine blk_drewN ?_ _ | refine blk_drew ?_ | refine blk_alloc ?_ _)); exact BK184.out)) : gb192 ≠ gb184)); clear HO190; clear BK184; clear HB; have HO190 := n0_; have BK184 := n1_; have HB := n2_; have BK192 := n3_; have GW192 := n4_; have GE192 := n5_; have NB184_192 := n6_; have NB192_184 := n7_; clear n0_ n1_ n2_ n3_ n4_ n5_ n6_ n7_; clear hb hbox hg; have hnb15 := NB192_184.out; have hnc15 := NB184_192.out; obtain ⟨hcz16_0, hcz16_1, hcz16_2, hfz16_0, hfz16_1, hfz16_2⟩ := Go.Proofs.Ytdhdgkonghefeaa.Lv.blks3 BK192.out))
       go_ret
       exact ⟨_, by first | rfl | (simp [errW_none, errW_some] <;> rfl) | (simp [*, errW_none, errW_some] <;> rfl), by (with_reducible repeat (first | apply Kd.R_alloc | apply Kd.R_drewN | apply Kd.R_drew)); exact Kd.R_mono (Kd.R_far (p := ⟨gb192, 2, none⟩) (Kd.R_far (p := ⟨gb192, 1, none⟩) (Kd.R_far (p := ⟨gb192, 0, none⟩) (Kd.R_types HO190.out BK192.out (by decide)) (fun _ hk => hk.2) (.bool true)) (fun _ hk => hk.2) (.slice A191_1 ((rd_T58 l0_1 x6_1).f1).length c191_1)) (fun _ hk => hk.2) (.slice A191_2 ((rd_T58 l0_1 x6_1).f2).length c191_2)) (fun _ hk => trivial), by repeat (first | (with_reducible first | exact HB.out | apply below_alloc | apply pw_below_drewN | apply below_drew1 | refine below_set ?_ GE184.out | refine below_set ?_ GE192.out) | exact HB.out)⟩
      ·replace c11 := Bool.eq_false_iff.mpr c11
       subst c11
       have H1 : (impl_Tree_path.l1 k1 a1 y188 0 a0_0 l0_1 false ((rd_T58 l0_1 x6_1).f1) ((rd_T58 l0_1 x6_1).f2)) = some r := by rw [if_neg (show ¬ (false = true) by decide)] at H; exact H
       clear H
       have H := H1
       clear H1
       have H' := Aside0.mk H
       clear H
       go_wp2_with (first | ((with_reducible refine gate_builtin (b := .append) (xs := #[.tmp 12, .tmp 14]) rfl ?_); at_builtin; refine Kd.R_append (Kd.int .i64) (w0 := w) w.heap.size rfl (.tmp 12) (.tmp 14) 39 2 (.int .i64 0) 8 rfl Try.underlying39 info2 rfl (by decide) (by omega) u5 x5_1 x6_1 [.int .i64 x6_1] (fun _ => True) (fun _ => False) rfl rfl ?aP (fun _ hk => hk.elim) ?aF ?aO ?aB ?aS ?aL ?_; (case aP => exact rfl); (case aB => exact (by repeat (first | (with_reducible first | exact HB.out | apply below_alloc | apply pw_below_drewN | apply below_drew1 | refine below_set ?_ GE184.out) | exact HB.out))); (case aF => exact (fun _ _ => trivial)); (case aO => exact (by (with_reducible repeat (first | apply Kd.R_alloc | apply Kd.R_drewN | apply Kd.R_drew)); exact HO_5.out)); (case aS => exact (below_size (by repeat (first | (with_reducible first | exact HB.out | apply below_alloc | apply pw_below_drewN | apply below_drew1 | refine below_set ?_ GE184.out) | exact HB.out)))); (case aL => have := LMc7.out; omega); intro v189 w17 ho hb hg hat; rw [← Ny188.out] at ho; have n0_ := Aside0.mk (blk_grown (g := gb184) (o := .cells #[.int .i64 a0_0, .slice A0_1 l0_1.length c0_1] 29 (0, 0)) (by (with_reducible repeat (first | refine blk_drewN ?_ _ | refine blk_drew ?_ | refine blk_alloc ?_ _)); exact BK184.out) hg (Kd.R_ne HO_5.out BK184.out (by decide))); have n1_ := Aside0.mk (hb); have n2_ := Aside0.mk (ho); clear BK184; clear HB; clear HO_5; have BK184 := n0_; have HB := n1_; have HO190 := n2_; clear n0_ n1_ n2_; clear ho hb hg hat; obtain ⟨hcz18_0, hcz18_1, hfz18_0, hfz18_1⟩ := Go.Proofs.Ytdhdgkonghefeaa.Lv.blks2 BK184.out; have p191 : 0 ≤ (x6_1 : Int) := of_decide_eq_true (by first | (with_reducible assumption) | assumption); have q191 : x6_1 < (l0_1.length : Int) := of_decide_eq_true (by first | (with_reducible assumption) | assumption); obtain ⟨ad191, A191_1, c191_1, A191_2, c191_2, e191, hx191_0, hx191_1, hx191_2, hl191_1, hi191_1, hl191_2, hi191_2⟩ := at_T58 HR0_1.out x6_1 p191 q191; (try rw [← Nbq10.out] at hx191_0); cases e191; replace hx191_0 := (HB.out.cell (World.block_lt_of_cell? w _ hx191_0)).trans hx191_0; replace hx191_1 := (HB.out.cell (World.block_lt_of_cell? w _ hx191_1)).trans hx191_1; replace hx191_2 := (HB.out.cell (World.block_lt_of_cell? w _ hx191_2)).trans hx191_2; have HR191_1 := Aside0.mk hi191_1; have HC191_1 := Aside0.mk hl191_1; clear hi191_1 hl191_1; have HR191_2 := Aside0.mk hi191_2; have HC191_2 := Aside0.mk hl191_2; clear hi191_2 hl191_2; replace p191 := eq_true p191; replace q191 := eq_true q191) | ((with_reducible refine gate_dst (N := 7) rfl ?_); refine box_event ?hg (N := 7) ?hd (cs := #[.bool false, .slice none 0 0, .slice none 0 0]) (t := 58) ?hr ?_; (case hd => rfl); (case hg => rfl); (case hr => first | (go_simp; done) | (go_simp; rfl)); intro gb192 hg w19 hbox hb; have n0_ := Aside0.mk (Kd.R_below (by (with_reducible repeat (first | apply Kd.R_alloc | apply Kd.R_drewN | apply Kd.R_drew)); exact HO190.out) hb); have n1_ := Aside0.mk (blk_below (g := gb184) (o := .cells #[.int .i64 a0_0, .slice (some ad191) l0_1.length c0_1] 29 (0, 0)) (by (with_reducible repeat (first | refine blk_drewN ?_ _ | refine blk_drew ?_ | refine blk_alloc ?_ _)); exact BK184.out) hb); have n2_ := Aside0.mk (below_step (by repeat (first | (with_reducible first | exact HB.out | apply below_alloc | apply pw_below_drewN | apply below_drew1 | refine below_set ?_ GE184.out) | exact HB.out)) hb); have n3_ := Aside0.mk (hbox); have n4_ := Aside0.mk ((by rw [hg]; exact (below_size (by repeat (first | (with_reducible first | exact HB.out | apply below_alloc | apply pw_below_drewN | apply below_drew1 | refine below_set ?_ GE184.out) | exact HB.out))) : w.heap.size ≤ gb192)); have n5_ := Aside0.mk ((by rw [hg]; exact (below_size (by repeat (first | (with_reducible first | exact HB.out | apply below_alloc | apply pw_below_drewN | apply below_drew1 | refine below_set ?_ GE184.out) | exact HB.out))) : w.heap.size ≤ gb192)); have n6_ := Aside0.mk ((by rw [hg]; exact Nat.ne_of_lt (blk_lt (g := gb184) (o := .cells #[.int .i64 a0_0, .slice (some ad191) l0_1.length c0_1] 29 (0, 0)) (by (with_reducible repeat (first | refine blk_drewN ?_ _ | refine blk_drew ?_ | refine blk_alloc ?_ _)); exact BK184.out)) : gb184 ≠ gb192)); have n7_ := Aside0.mk ((by rw [hg]; exact Nat.ne_of_gt (blk_lt (g := gb184) (o := .cells #[.int .i64 a0_0, .slice (some ad191) l0_1.length c0_1] 29 (0, 0)) (by (with_reducible repeat (first | refine blk_drewN ?_ _ | refine blk_drew ?_ | refine blk_alloc ?_ _)); exact BK184.out)) : gb192 ≠ gb184)); clear HO190; clear BK184; clear HB; have HO190 := n0_; have BK184 := n1_; have HB := n2_; have BK192 := n3_; have GW192 := n4_; have GE192 := n5_; have NB184_192 := n6_; have NB192_184 := n7_; clear n0_ n1_ n2_ n3_ n4_ n5_ n6_ n7_; clear hb hbox hg; have hnb20 := NB192_184.out; have hnc20 := NB184_192.out; obtain ⟨hcz21_0, hcz21_1, hcz21_2, hfz21_0, hfz21_1, hfz21_2⟩ := Go.Proofs.Ytdhdgkonghefeaa.Lv.blks3 BK192.out))
       go_loopg [8] k1 (fun kq v8 w' => ∃ (x8_2 : Int), v8 = .int .i64 x8_2 ∧ Aside0 (impl_Tree_path.l1 kq a1 y188 x8_2 a0_0 l0_1 false ((rd_T58 l0_1 x6_1).f1) ((rd_T58 l0_1 x6_1).f2) = some r) ∧ Aside0 (kq ≤ k1) ∧ Aside0 (Kd.R (Kd.int .i64) 2 w' w.heap.size (fun _ => True) v189 y188) ∧ Aside0 (w'.heap[gb184]? = some (.cells #[.int .i64 a0_0, (.slice (some ad191) l0_1.length c0_1)] 29 (0, 0))) ∧ Aside0 (w'.heap[gb192]? = some (.cells #[.bool false, (.slice A191_1 ((rd_T58 l0_1 x6_1).f1).length c191_1), (.slice A191_2 ((rd_T58 l0_1 x6_1).f2).length c191_2)] 58 (0, 0))) ∧ Aside0 (Below w.heap.size w w'))
       case atStart => exact ⟨(0), (by first | rfl | (simp; done) | (simp [*]; done)), H', ⟨Nat.le_refl _⟩, ⟨by (with_reducible repeat (first | apply Kd.R_alloc | apply Kd.R_drewN | apply Kd.R_drew)); exact Kd.R_mono (Kd.R_far (p := ⟨gb192, 2, none⟩) (Kd.R_far (p := ⟨gb192, 1, none⟩) (Kd.R_far (p := ⟨gb192, 0, none⟩) (Kd.R_types HO190.out BK192.out (by decide)) (fun _ hk => hk.2) (.bool false)) (fun _ hk => hk.2) (.slice A191_1 ((rd_T58 l0_1 x6_1).f1).length c191_1)) (fun _ hk => hk.2) (.slice A191_2 ((rd_T58 l0_1 x6_1).f2).length c191_2)) (fun _ hk => trivial)⟩, ⟨by (with_reducible repeat (first | refine blk_drewN ?_ _ | refine blk_drew ?_ | refine blk_alloc ?_ _)); refine blk_far ?_ NB184_192.out _; (with_reducible repeat (first | refine blk_drewN ?_ _ | refine blk_drew ?_ | refine blk_alloc ?_ _)); refine blk_far ?_ NB184_192.out _; (with_reducible repeat (first | refine blk_drewN ?_ _ | refine blk_drew ?_ | refine blk_alloc ?_ _)); refine blk_far ?_ NB184_192.out _; (with_reducible repeat (first | refine blk_drewN ?_ _ | refine blk_drew ?_ | refine blk_alloc ?_ _)); exact BK184.out⟩, ⟨by (with_reducible repeat (first | refine blk_drewN ?_ _ | refine blk_drew ?_ | refine blk_alloc ?_ _)); refine blk_put (cs := #[.bool false, .slice A191_1 ((rd_T58 l0_1 x6_1).f1).length c191_1, .slice none 0 0]) ?_ 2 _ rfl; (with_reducible repeat (first | refine blk_drewN ?_ _ | refine blk_drew ?_ | refine blk_alloc ?_ _)); refine blk_put (cs := #[.bool false, .slice none 0 0, .slice none 0 0]) ?_ 1 _ rfl; (with_reducible repeat (first | refine blk_drewN ?_ _ | refine blk_drew ?_ | refine blk_alloc ?_ _)); refine blk_put (cs := #[.bool false, .slice none 0 0, .slice none 0 0]) ?_ 0 _ rfl; (with_reducible repeat (first | refine blk_drewN ?_ _ | refine blk_drew ?_ | refine blk_alloc ?_ _)); exact BK192.out⟩, ⟨by repeat (first | (with_reducible first | exact HB.out | apply below_alloc | apply pw_below_drewN | apply below_drew1 | refine below_set ?_ GE184.out | refine below_set ?_ GE192.out) | exact HB.out)⟩⟩
       case round =>
        clear H'
        try clear c1
        try clear p1
        try clear q1
        try clear hx1
        try clear c2
        try clear p2
        try clear c4
        try clear c7
        try clear c8
        try clear c8b0
        try clear c9
        try clear c9b0
        try clear q10
        try clear c11
        try clear c15
        try clear c19
        try clear p19
        try clear q19
        try clear hx19
        try clear c20
        try clear hcz13_0 hcz13_1
        try clear hcz16_0 hcz16_1 hcz16_2
        try clear hcz18_0 hcz18_1
        try clear hcz21_0 hcz21_1 hcz21_2
        try clear hfz13_0 hfz13_1
        try clear hfz16_0 hfz16_1 hfz16_2
        try clear hfz18_0 hfz18_1
        try clear hfz21_0 hfz21_1 hfz21_2
        try clear hx191_0
        try clear hx191_1
        try clear hx191_2
        try clear p191
        try clear p2
        try clear q191
        obtain ⟨x8_2, rfl, HA, HK2, HO_5, BK184, BK192, HB⟩ := hrel
        cases gk with
        | zero => exact absurd HA.out (by simp [impl_Tree_path.l1])
        | succ k2 =>
         have H := HA.out
         clear HA
         simp only [impl_Tree_path.l1] at H
         by_cases c22 : x8_2 < (((rd_T58 l0_1 x6_1).f1).length : Int)
         ·rw [if_pos c22] at H
          have c22b0 : decide (x8_2 < (((rd_T58 l0_1 x6_1).f1).length : Int)) = true := decide_eq_true c22
          clear c22
          by_cases c23 : 0 ≤ x8_2
          ·rw [if_pos c23] at H
           have c23b0 : decide (0 ≤ x8_2) = true := decide_eq_true c23
           clear c23
           by_cases c24 : a1 ≥ (rd ((rd_T58 l0_1 x6_1).f1) x8_2)
           ·rw [if_pos c24] at H
            have c24b0 : decide ((rd ((rd_T58 l0_1 x6_1).f1) x8_2) ≤ a1) = true := decide_eq_true c24
            clear c24
            have H' := Aside0.mk H
            clear H
            have hnb25 := NB192_184.out
            have hnc25 := NB184_192.out
            obtain ⟨hcz26_0, hcz26_1, hcz26_2, hfz26_0, hfz26_1, hfz26_2⟩ := Go.Proofs.Ytdhdgkonghefeaa.Lv.blks3 BK192.out
            have p193 : 0 ≤ (x8_2 : Int) := of_decide_eq_true (by first | (with_reducible assumption) | assumption)
            have q193 : x8_2 < (((rd_T58 l0_1 x6_1).f1).length : Int) := of_decide_eq_true (by first | (with_reducible assumption) | assumption)
            obtain ⟨ad193, e193, hx193_0⟩ := Kd.at_int HR191_1.out x8_2 p193 q193
            cases e193
            replace hx193_0 := (HB.out.cell (World.block_lt_of_cell? w _ hx193_0)).trans hx193_0
            replace p193 := eq_true p193
            replace q193 := eq_true q193
            go_wp2
            go_roundg k2
            case measure => have := HK1.out; have := HK2.out; omega
            case rel => exact ⟨(wrap64 (x8_2 + 1)), (by first | rfl | (simp; done) | (simp [*]; done)), H', ⟨by have := HK1.out; have := HK2.out; omega⟩, ⟨by (with_reducible repeat (first | apply Kd.R_alloc | apply Kd.R_drewN | apply Kd.R_drew)); exact HO_5.out⟩, ⟨by (with_reducible repeat (first | refine blk_drewN ?_ _ | refine blk_drew ?_ | refine blk_alloc ?_ _)); exact BK184.out⟩, ⟨by (with_reducible repeat (first | refine blk_drewN ?_ _ | refine blk_drew ?_ | refine blk_alloc ?_ _)); exact BK192.out⟩, ⟨by repeat (first | (with_reducible first | exact HB.out | apply below_alloc | apply pw_below_drewN | apply below_drew1 | refine below_set ?_ GE184.out | refine below_set ?_ GE192.out) | exact HB.out)⟩⟩
           ·rw [if_neg c24] at H
            have c24b0 : decide ((rd ((rd_T58 l0_1 x6_1).f1) x8_2) ≤ a1) = false := decide_eq_false c24
            clear c24
            by_cases c27 : x8_2 < (((rd_T58 l0_1 x6_1).f2).length : Int)
            ·rw [if_pos c27] at H
             have c27b0 : decide (x8_2 < (((rd_T58 l0_1 x6_1).f2).length : Int)) = true := decide_eq_true c27
             clear c27
             have H' := Aside0.mk H
             clear H
             have hnb28 := NB192_184.out
             have hnc28 := NB184_192.out
             obtain ⟨hcz29_0, hcz29_1, hcz29_2, hfz29_0, hfz29_1, hfz29_2⟩ := Go.Proofs.Ytdhdgkonghefeaa.Lv.blks3 BK192.out
             have p193 : 0 ≤ (x8_2 : Int) := of_decide_eq_true (by first | (with_reducible assumption) | assumption)
             have q193 : x8_2 < (((rd_T58 l0_1 x6_1).f1).length : Int) := of_decide_eq_true (by first | (with_reducible assumption) | assumption)
             obtain ⟨ad193, e193, hx193_0⟩ := Kd.at_int HR191_1.out x8_2 p193 q193
             cases e193
             replace hx193_0 := (HB.out.cell (World.block_lt_of_cell? w _ hx193_0)).trans hx193_0
             replace p193 := eq_true p193
             replace q193 := eq_true q193
             have p194 : 0 ≤ (x8_2 : Int) := of_decide_eq_true (by first | (with_reducible assumption) | assumption)
             have q194 : x8_2 < (((rd_T58 l0_1 x6_1).f2).length : Int) := of_decide_eq_true (by first | (with_reducible assumption) | assumption)
             obtain ⟨ad194, e194, hx194_0⟩ := Kd.at_int HR191_2.out x8_2 p194 q194
             cases e194
             replace hx194_0 := (HB.out.cell (World.block_lt_of_cell? w _ hx194_0)).trans hx194_0
             replace p194 := eq_true p194
             replace q194 := eq_true q194
             go_wp2
             go_roundg k2
             case measure => have := HK1.out; have := HK2.out; omega
             case rel => exact ⟨(y188), (rd ((rd_T58 l0_1 x6_1).f2) x8_2), (by first | rfl | (simp; done) | (simp [*]; done)), H', ⟨by have := HK1.out; have := HK2.out; omega⟩, ⟨by (with_reducible repeat (first | apply Kd.R_alloc | apply Kd.R_drewN | apply Kd.R_drew)); exact HO_5.out⟩, ⟨by (with_reducible repeat (first | refine blk_drewN ?_ _ | refine blk_drew ?_ | refine blk_alloc ?_ _)); exact BK184.out⟩, ⟨by repeat (first | (with_reducible first | exact HB.out | apply below_alloc | apply pw_below_drewN | apply below_drew1 | refine below_set ?_ GE184.out | refine below_set ?_ GE192.out) | exact HB.out)⟩⟩
            ·rw [if_neg c27] at H
             exact absurd H (by simp)
          ·rw [if_neg c23] at H
           exact absurd H (by simp)
         ·rw [if_neg c22] at H
          have c22b0 : decide (x8_2 < (((rd_T58 l0_1 x6_1).f1).length : Int)) = false := decide_eq_false c22
          clear c22
          by_cases c30 : 0 ≤ x8_2
          ·rw [if_pos c30] at H
           have c30b0 : decide (0 ≤ x8_2) = true := decide_eq_true c30
           clear c30
           by_cases c31 : x8_2 < (((rd_T58 l0_1 x6_1).f2).length : Int)
           ·rw [if_pos c31] at H
            have c31b0 : decide (x8_2 < (((rd_T58 l0_1 x6_1).f2).length : Int)) = true := decide_eq_true c31
            clear c31
            have H' := Aside0.mk H
            clear H
            have hnb32 := NB192_184.out
            have hnc32 := NB184_192.out
            obtain ⟨hcz33_0, hcz33_1, hcz33_2, hfz33_0, hfz33_1, hfz33_2⟩ := Go.Proofs.Ytdhdgkonghefeaa.Lv.blks3 BK192.out
            have p195 : 0 ≤ (x8_2 : Int) := of_decide_eq_true (by first | (with_reducible assumption) | assumption)
            have q195 : x8_2 < (((rd_T58 l0_1 x6_1).f2).length : Int) := of_decide_eq_true (by first | (with_reducible assumption) | assumption)
            obtain ⟨ad195, e195, hx195_0⟩ := Kd.at_int HR191_2.out x8_2 p195 q195
            cases e195
            replace hx195_0 := (HB.out.cell (World.block_lt_of_cell? w _ hx195_0)).trans hx195_0
            replace p195 := eq_true p195
            replace q195 := eq_true q195
            go_wp2
            go_roundg k2
            case measure => have := HK1.out; have := HK2.out; omega
            case rel => exact ⟨(y188), (rd ((rd_T58 l0_1 x6_1).f2) x8_2), (by first | rfl | (simp; done) | (simp [*]; done)), H', ⟨by have := HK1.out; have := HK2.out; omega⟩, ⟨by (with_reducible repeat (first | apply Kd.R_alloc | apply Kd.R_drewN | apply Kd.R_drew)); exact HO_5.out⟩, ⟨by (with_reducible repeat (first | refine blk_drewN ?_ _ | refine blk_drew ?_ | refine blk_alloc ?_ _)); exact BK184.out⟩, ⟨by repeat (first | (with_reducible first | exact HB.out | apply below_alloc | apply pw_below_drewN | apply below_drew1 | refine below_set ?_ GE184.out | refine below_set ?_ GE192.out) | exact HB.out)⟩⟩
           ·rw [if_neg c31] at H
            exact absurd H (by simp)
          ·rw [if_neg c30] at H
           exact absurd H (by simp)
     ·rw [if_neg c9] at H
      exact absurd H (by simp)
    ·rw [if_neg c8] at H
     exact absurd H (by simp)
   ·rw [if_neg c7] at H
    exact absurd H (by simp)

end Go.Proofs.Ytdhdgkonghefeaa.P
