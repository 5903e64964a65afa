import Derived.Test.YthagppmaofcllaaZz
import Derived.Test.YthagppmaofcllaaP0
import Derived.Test.YthagppmaofcllaaPCcg0
import Derived.Test.YthagppmaofcllaaPCeg0
import Derived.Test.YthagppmaofcllaaPCg0
import Derived.Test.YthagppmaofcllaaPDcg0
import Derived.Test.YthagppmaofcllaaPDm1
import Derived.Test.YthagppmaofcllaaWRepsOne
import Derived.Test.YthagppmaofcllaaWTab
import Derived.Test.YthagppmaofcllaaLv
namespace Go.Proofs.Ythagppmaofcllaa.P
open Go.RowKit Go.Proofs.YthagppmaofcllaaW.PrintWords Go.Proofs.YthagppmaofcllaaW.PrintLast Go.Proofs.YthagppmaofcllaaW.PrintMore
attribute [local go_sem] max2_int min2_int max_two min_two max_three min_three max_four min_four   -- for this text's walks alone
set_option linter.unusedVariables false
set_option linter.unusedSimpArgs false
theorem yq0 {p : Prop} (h : p := by repeat (first | (with_reducible first | exact HK.out | apply Qau.set_ | apply keep_drewN | apply keep_drew | apply keep_alloc | refine keep_far ?_ GW123.out _ | refine keep_far ?_ GW42.out _) | exact HK.out)) : p := h
theorem yq1 {p : Prop} (h : p := by repeat (first | (with_reducible first | exact HB.out | apply Qc | apply Qa | apply Qb | refine Qd ?_ (IsS101.ge HI0.out) | refine Qd ?_ GE123.out | refine Qd ?_ GE42.out) | exact HB.out)) : p := h
theorem yq2 {p : Prop} (h : p := by repeat (first | (with_reducible first | exact HK.out | apply Qau.set_ | apply keep_drewN | apply keep_drew | apply keep_alloc | refine keep_far ?_ GW123.out _ | refine keep_far ?_ GW42.out _ | refine keep_far ?_ GW124.out _) | exact HK.out)) : p := h
theorem yq3 {p : Prop} (h : p := by repeat (first | (with_reducible first | exact HI0.out | apply IsS101.alloc | apply IsS101.drewN | apply IsS101.drew | refine IsS101.far ?_ NB0_1014.out _ | refine IsS101.far ?_ NB0_1015.out _ | apply IsS101.set_1) | exact HI0.out)) : p := h
theorem yq4 {p : Prop} (h : p := by repeat (first | (with_reducible first | exact HB.out | apply Qc | apply Qa | apply Qb | refine Qd ?_ (IsS101.ge HI0.out) | refine Qd ?_ GE123.out | refine Qd ?_ GE42.out | refine Qd ?_ GE124.out) | exact HB.out)) : p := h
theorem yq5 {p : Prop} (h : p := by repeat (first | (with_reducible first | exact HI0.out | apply IsS101.alloc | apply IsS101.drewN | apply IsS101.drew | refine IsS101.far ?_ NB0_1014.out _ | refine IsS101.far ?_ NB0_1015.out _ | refine IsS101.far ?_ NB0_1034.out _ | apply IsS101.set_1) | exact HI0.out)) : p := h
theorem yq6 {p : Prop} (h : p := by refine zR ?_; exact (Kd.Qw (Kd.Qw (Kd.Qx (p := ⟨gb42, 1, none⟩) (Kd.Qx (p := ⟨gb42, 0, none⟩) (Kd.Qx (p := ⟨gb124, 1, none⟩) (Kd.Qx (p := ⟨gb124, 0, none⟩) (Kd.Qai (Kd.Qai HO129.out BK124.out (by decide)) BK42.out (by decide)) (fun _ hk => hk.1.2) (.slice Ao23 t125.length co23)) (fun _ hk => hk.1.2) (.slice Ao25 t126.length co25)) (fun _ hk => hk.2) (.slice Ao23 t125.length co23)) (fun _ hk => hk.2) (.slice Ao25 t126.length co25)) (fun _ h_ => h_.1)) (fun _ h_ => h_.1))) : p := h
theorem yq7 {p : Prop} (h : p := by refine zR ?_; exact (Kd.Qw (Kd.Qw (Kd.Qx (p := ⟨gb42, 1, none⟩) (Kd.Qx (p := ⟨gb42, 0, none⟩) (Kd.Qx (p := ⟨gb124, 1, none⟩) (Kd.Qx (p := ⟨gb124, 0, none⟩) (Kd.Qai (Kd.Qai HO131.out BK124.out (by decide)) BK42.out (by decide)) (fun _ hk => hk.1.2) (.slice Ao23 t125.length co23)) (fun _ hk => hk.1.2) (.slice Ao25 t126.length co25)) (fun _ hk => hk.2) (.slice Ao23 t125.length co23)) (fun _ hk => hk.2) (.slice Ao25 t126.length co25)) (fun _ h_ => h_.1)) (fun _ h_ => h_.1))) : p := h
theorem yq8 {p : Prop} (h : p := by first | exact (IsS101.far (p := ⟨gb42, 1, none⟩) (IsS101.far (p := ⟨gb42, 0, none⟩) (IsS101.far (p := ⟨gb124, 1, none⟩) (IsS101.far (p := ⟨gb124, 0, none⟩) HI0.out NB0_1034.out _) NB0_1034.out _) NB0_1015.out _) NB0_1015.out _) | (repeat (first | (with_reducible first | exact HI0.out | apply IsS101.alloc | apply IsS101.drewN | apply IsS101.drew | refine IsS101.far ?_ NB0_1014.out _ | refine IsS101.far ?_ NB0_1015.out _ | refine IsS101.far ?_ NB0_1034.out _ | apply IsS101.set_1) | exact HI0.out))) : p := h
theorem yq9 {p : Prop} (h : p := by repeat (first | (with_reducible first | exact HK.out | apply Qau.set_ | apply keep_drewN | apply keep_drew | apply keep_alloc | refine keep_far ?_ GW123.out _) | exact HK.out)) : p := h
theorem yq10 {p : Prop} (h : p := by refine zQ ?_; refine Qk (cs := #[.slice Ao23 t125.length co23, .slice Ao17 x41_1.length co17]) ?_ 1 _ rfl; refine zQ ?_; refine Qk (cs := #[.slice Ao16 x40_1.length co16, .slice Ao17 x41_1.length co17]) ?_ 0 _ rfl; refine zQ ?_; refine blk_far ?_ NB1015_1034.out _; refine zQ ?_; refine blk_far ?_ NB1015_1034.out _; refine zQ ?_; exact BK42.out) : p := h
theorem yq11 {p : Prop} (h : p := by rw [hg]; exact Nat.ne_of_lt (Ql (g := gb123) (o := .cells #[.slice none 0 0, .slice none 0 0] 27 (0, 0)) zk)) : p := h
theorem yq12 {p : Prop} (h : p := by rw [hg]; exact Nat.ne_of_gt (Ql (g := gb123) (o := .cells #[.slice none 0 0, .slice none 0 0] 27 (0, 0)) zk)) : p := h
theorem yq13 {p : Prop} (h : p := by refine zQ ?_; refine blk_far ?_ NB1034_1015.out _; refine zQ ?_; refine blk_far ?_ NB1034_1015.out _; refine zQ ?_; refine Qk (cs := #[.slice Ao23 t125.length co23, .slice none 0 0]) ?_ 1 _ rfl; refine zQ ?_; refine Qk (cs := #[.slice none 0 0, .slice none 0 0]) ?_ 0 _ rfl; refine zQ ?_; exact BK124.out) : p := h
theorem yq14 {p : Prop} (h : p := by rw [hg]; exact (keep_size (w := w) (g := g) (row := none) yq0)) : p := h
theorem yq15 {p : Prop} (h : p := by rw [hg]; exact Nat.ne_of_lt (IsS101.lt (show IsS101 w0 _ g s0_0 t136 from by repeat (first | (with_reducible first | exact HI0.out | apply IsS101.alloc | apply IsS101.drewN | apply IsS101.drew | refine IsS101.far ?_ NB0_1014.out _ | refine IsS101.far ?_ NB0_1015.out _ | apply IsS101.set_1) | exact HI0.out)))) : p := h
theorem yq16 {p : Prop} (h : p := by rw [hg]; exact Nat.ne_of_gt (IsS101.lt (show IsS101 w0 _ g s0_0 t136 from by repeat (first | (with_reducible first | exact HI0.out | apply IsS101.alloc | apply IsS101.drewN | apply IsS101.drew | refine IsS101.far ?_ NB0_1014.out _ | refine IsS101.far ?_ NB0_1015.out _ | apply IsS101.set_1) | exact HI0.out)))) : p := h
theorem yq17 {p : Prop} (h : p := by rw [hg]; exact Nat.ne_of_lt (Ql (g := gb42) (o := .cells #[.slice Ao16 x40_1.length co16, .slice Ao17 x41_1.length co17] 27 (0, 0)) zk)) : p := h
theorem yq18 {p : Prop} (h : p := by rw [hg]; exact Nat.ne_of_gt (Ql (g := gb42) (o := .cells #[.slice Ao16 x40_1.length co16, .slice Ao17 x41_1.length co17] 27 (0, 0)) zk)) : p := h
theorem yq19 {p : Prop} (h : p := by refine zQ ?_; refine blk_far ?_ NB1014_1015.out _; refine zQ ?_; refine blk_far ?_ NB1014_1015.out _; refine zQ ?_; refine blk_far ?_ NB1014_1034.out _; refine zQ ?_; refine blk_far ?_ NB1014_1034.out _; refine zQ ?_; exact BK123.out) : p := h
theorem yq20 {p : Prop} (h : p := by first | (go_simp; done) | (go_simp; rfl)) : p := h
theorem yq21 {p : Prop} (h : p := by simp only [putAll, Act.put, List.setIfInBounds_toArray, List.set_cons_zero, List.set_cons_succ]) : p := h
def Zsl3Log.T5 : Bool × List (List Nat × List Nat) := (true, [([], []), ([], []), ([1], [1]), ([0, 2, 2], [0, 2]), ([3], [3]), ([4], [4]), ([4], [4]), ([], []), ([7, 5, 3, 0, 1, 2, 3, 4, 5, 7], [5, 7]), ([6, 8, 0, 1, 2, 3, 4, 5, 6, 7, 8], [6])])
def Zsl3Log.B5 : List Nat := [0, 0, 2, 7, 15, 31, 31, 0, 191, 511]
theorem Zsl3Log.tab5 : rtab .any (opsOf Try.f78 5) = Zsl3Log.T5 := by kernel_rfl
theorem Zsl3Log.bits5 : waitsOk Zsl3Log.T5.2 Zsl3Log.B5 = true := by kernel_rfl
def Zsl3Log.T15 : Bool × List (List Nat × List Nat) := (true, [([], []), ([0], [0]), ([], []), ([], []), ([3], [3]), ([4], [4]), ([2, 5], [2, 5]), ([], []), ([7, 6], [7]), ([8], [8]), ([1, 6, 0, 1, 2, 3, 4, 5, 6, 7, 8, 9], [1, 6]), ([10, 9, 8, 0, 1, 2, 3, 4, 5, 6, 7, 8, 9], [9, 10])])
def Zsl3Log.B15 : List Nat := [0, 1, 0, 0, 8, 24, 60, 0, 252, 508, 1023, 2047]
theorem Zsl3Log.tab15 : rtab .any (opsOf Try.f78 15) = Zsl3Log.T15 := by kernel_rfl
theorem Zsl3Log.bits15 : waitsOk Zsl3Log.T15.2 Zsl3Log.B15 = true := by kernel_rfl
set_option maxHeartbeats 40000000 in
set_option maxRecDepth 100000 in
theorem Zsl3Log.calls (k : Nat) (g : Nat) (s0_0 : List Int) (s0_1 : Int) (r1 : List Int) (r2 : List Int) (r3 : Int) (w0 w : World) (hI : IsS101 w0 w g s0_0 s0_1) (hB : Below w0.heap.size w0 w) (h : Zsl3Log.f k s0_0 s0_1 = some (r1, r2, r3)) :
 Calls Try.prog 78 #[.pointer (some ⟨g, 0, none⟩)] w fun e w' => ∃ v0_ v1_ : Value, e = .returned (.agg #[v0_, v1_]) ∧ Kd.R (Kd.int .u8) 5 w' w.heap.size (fun k_ => some k_ ≠ (v1_ : Value).ownBlock) v0_ r1 ∧ Kd.R (Kd.int .u8) 5 w' w.heap.size (fun k_ => some k_ ≠ (v0_ : Value).ownBlock) v1_ r2 ∧ IsS101 w0 w' g s0_0 r3 ∧ Below w0.heap.size w0 w' ∧ Qau w w' g none := by
 have hu27 := Try.underlying27
 have HI0 := Qz.mk hI
 have HK := Qz.mk (Qau.refl w g none)
 have HL := Qz.mk hB.size
 clear hI
 have HW0 := Qz.mk hB.size
 have HB := Qz.mk hB
 clear hB
 have H : ((Zsl1Next.f s0_0 s0_1 9).bind fun bt155 => (Zsl3Log.l0 k bt155.1 s0_0 bt155.2 ([] : List Int) ([] : List Int))) = some (r1, r2, r3) := h
 clear h
 replace H := Option.bind_eq_some_iff.mp H
 obtain ⟨⟨t155, t160⟩, A20, H⟩ := H
 replace H : (Zsl3Log.l0 k t155 s0_0 t160 ([] : List Int) ([] : List Int)) = some (r1, r2, r3) := H
 have A2 := Qz.mk A20
 clear A20
 have H' := Qz.mk H
 clear H
 go_enter Try.func78, Try.ntmps78
 go_wp2_with (first | ((with_reducible refine gate_dst (N := 2) rfl ?_); refine box_event ?hg (N := 2) ?hd (cs := #[.slice none 0 0, .slice none 0 0]) (t := 27) ?hr ?_; (case hd => rfl); (case hg => rfl); (case hr => exact yq20); intro gb123 hg w3 hbox hb; have n0_ := Qz.mk (IsS101.below (by repeat (first | (with_reducible first | exact HI0.out | apply IsS101.alloc | apply IsS101.drewN | apply IsS101.drew | apply IsS101.set_1) | exact HI0.out)) hb); have n1_ := Qz.mk (Qau.trans zK (Qau.of_below hb g none) (.inl rfl)); have n2_ := Qz.mk (Qq (by repeat (first | (with_reducible first | exact HB.out | apply Qc | apply Qa | apply Qb | refine Qd ?_ (IsS101.ge HI0.out)) | exact HB.out)) hb); have n3_ := Qz.mk (hbox); have n4_ := Qz.mk ((by rw [hg]; exact (keep_size (w := w) (g := g) (row := none) zK) : w.heap.size ≤ gb123)); have n5_ := Qz.mk ((Nat.le_trans HW0.out (by rw [hg]; exact (keep_size (w := w) (g := g) (row := none) zK) : w.heap.size ≤ gb123) : w0.heap.size ≤ gb123)); have n6_ := Qz.mk ((by rw [hg]; exact Nat.ne_of_lt (IsS101.lt (show IsS101 w0 _ g s0_0 s0_1 from by repeat (first | (with_reducible first | exact HI0.out | apply IsS101.alloc | apply IsS101.drewN | apply IsS101.drew | apply IsS101.set_1) | exact HI0.out))) : g ≠ gb123)); have n7_ := Qz.mk ((by rw [hg]; exact Nat.ne_of_gt (IsS101.lt (show IsS101 w0 _ g s0_0 s0_1 from by repeat (first | (with_reducible first | exact HI0.out | apply IsS101.alloc | apply IsS101.drewN | apply IsS101.drew | apply IsS101.set_1) | exact HI0.out))) : gb123 ≠ g)); clear HI0; clear HK; clear HB; have HI0 := n0_; have HK := n1_; have HB := n2_; have BK123 := n3_; have GW123 := n4_; have GE123 := n5_; have NB0_1014 := n6_; have NB1014_0 := n7_; clear n0_ n1_ n2_ n3_ n4_ n5_ n6_ n7_; clear hb hbox hg) | ((with_reducible refine gate_dst (N := 3) rfl ?_); refine box_event ?hg (N := 3) ?hd (cs := #[.slice none 0 0, .slice none 0 0]) (t := 27) ?hr ?_; (case hd => rfl); (case hg => rfl); (case hr => exact yq20); intro gb42 hg w4 hbox hb; have n0_ := Qz.mk (IsS101.below (by repeat (first | (with_reducible first | exact HI0.out | apply IsS101.alloc | apply IsS101.drewN | apply IsS101.drew | refine IsS101.far ?_ NB0_1014.out _ | apply IsS101.set_1) | exact HI0.out)) hb); have n1_ := Qz.mk (Qi (g := gb123) (o := .cells #[.slice none 0 0, .slice none 0 0] 27 (0, 0)) zk hb); have n2_ := Qz.mk (Qau.trans yq9 (Qau.of_below hb g none) (.inl rfl)); have n3_ := Qz.mk (Qq (by repeat (first | (with_reducible first | exact HB.out | apply Qc | apply Qa | apply Qb | refine Qd ?_ (IsS101.ge HI0.out) | refine Qd ?_ GE123.out) | exact HB.out)) hb); have n4_ := Qz.mk (hbox); have n5_ := Qz.mk ((by rw [hg]; exact (keep_size (w := w) (g := g) (row := none) yq9) : w.heap.size ≤ gb42)); have n6_ := Qz.mk ((Nat.le_trans HW0.out (by rw [hg]; exact (keep_size (w := w) (g := g) (row := none) yq9) : w.heap.size ≤ gb42) : w0.heap.size ≤ gb42)); have n7_ := Qz.mk ((yq11 : gb123 ≠ gb42)); have n8_ := Qz.mk ((yq12 : gb42 ≠ gb123)); have n9_ := Qz.mk ((by rw [hg]; exact Nat.ne_of_lt (IsS101.lt (show IsS101 w0 _ g s0_0 s0_1 from by repeat (first | (with_reducible first | exact HI0.out | apply IsS101.alloc | apply IsS101.drewN | apply IsS101.drew | refine IsS101.far ?_ NB0_1014.out _ | apply IsS101.set_1) | exact HI0.out))) : g ≠ gb42)); have n10_ := Qz.mk ((by rw [hg]; exact Nat.ne_of_gt (IsS101.lt (show IsS101 w0 _ g s0_0 s0_1 from by repeat (first | (with_reducible first | exact HI0.out | apply IsS101.alloc | apply IsS101.drewN | apply IsS101.drew | refine IsS101.far ?_ NB0_1014.out _ | apply IsS101.set_1) | exact HI0.out))) : gb42 ≠ g)); clear HI0; clear BK123; clear HK; clear HB; have HI0 := n0_; have BK123 := n1_; have HK := n2_; have HB := n3_; have BK42 := n4_; have GW42 := n5_; have GE42 := n6_; have NB1014_1015 := n7_; have NB1015_1014 := n8_; have NB0_1015 := n9_; have NB1015_0 := n10_; clear n0_ n1_ n2_ n3_ n4_ n5_ n6_ n7_ n8_ n9_ n10_; clear hb hbox hg; have hnb5 := NB1015_1014.out; have hnc5 := NB1014_1015.out; have hnb6 := NB1015_0.out; have hnc6 := NB0_1015.out; obtain ⟨z7_0, z7_1, j7_0, j7_1⟩ := Lv.blks2 BK42.out) | ((with_reducible refine gate_callee (f := 64) rfl ?_); refine Qat (some 9) rfl rfl Try.func64 (by kernel_rfl) rfl #[.pointer (some ⟨g, 0, none⟩), .int .i64 9] rfl zm ?_; (with_reducible refine (Zsl1Next.calls g s0_0 s0_1 9 t155 t160 w0 _ ?side1 ?side2 A2.out).mono ?_); (case side1 => first | exact (IsS101.far (p := ⟨gb42, 1, none⟩) (IsS101.far (p := ⟨gb42, 0, none⟩) HI0.out NB0_1015.out _) NB0_1015.out _) | (repeat (first | (with_reducible first | exact HI0.out | apply IsS101.alloc | apply IsS101.drewN | apply IsS101.drew | refine IsS101.far ?_ NB0_1014.out _ | refine IsS101.far ?_ NB0_1015.out _ | apply IsS101.set_1) | exact HI0.out))); (case side2 => exact yq1); rintro e w8 ⟨rfl, hi, hb, hk⟩; refine ⟨_, rfl, ?_⟩; have n0_ := Qz.mk (Qau.blk hk (g' := gb123) (o := .cells #[.slice none 0 0, .slice none 0 0] 27 (0, 0)) (by refine zQ ?_; refine blk_far ?_ NB1014_1015.out _; refine zQ ?_; refine blk_far ?_ NB1014_1015.out _; refine zQ ?_; exact BK123.out) NB1014_0.out (by simp)); have n1_ := Qz.mk (Qau.blk hk (g' := gb42) (o := .cells #[.slice none 0 0, .slice none 0 0] 27 (0, 0)) (by refine zQ ?_; refine Qk (cs := #[.slice none 0 0, .slice none 0 0]) ?_ 1 _ rfl; refine zQ ?_; refine Qk (cs := #[.slice none 0 0, .slice none 0 0]) ?_ 0 _ rfl; refine zQ ?_; exact BK42.out) NB1015_0.out (by simp)); have n2_ := Qz.mk (Qau.trans yq0 hk (.inl rfl)); have n3_ := Qz.mk (hb); have n4_ := Qz.mk (hi); clear BK123; clear BK42; clear HK; clear HB; clear HI0; have BK123 := n0_; have BK42 := n1_; have HK := n2_; have HB := n3_; have HI0 := n4_; clear n0_ n1_ n2_ n3_ n4_; (try clear hb); (try clear hb2); (try clear hk); (try clear hi)))
 go_loopg [4] k (fun kq v4 w' => ∃ (x4_1 : Int) (x128_1 : Int) (x40_1 : List Int) (x41_1 : List Int) (u1016000 : Value) (u1016001 : Value), v4 = .int .i64 x4_1 ∧ Qz (Zsl3Log.l0 kq x4_1 s0_0 x128_1 x40_1 x41_1 = some (r1, r2, r3)) ∧ Qz (kq ≤ k) ∧ Qz (Kd.R (Kd.int .u8) 5 w' w.heap.size (fun k_ => some k_ ≠ (u1016001 : Value).ownBlock) u1016000 x40_1) ∧ Qz (Kd.R (Kd.int .u8) 5 w' w.heap.size (fun k_ => some k_ ≠ (u1016000 : Value).ownBlock) u1016001 x41_1) ∧ Qz (w'.heap[gb123]? = some (.cells #[(.slice none 0 0), (.slice none 0 0)] 27 (0, 0))) ∧ Qz (w'.heap[gb42]? = some (.cells #[u1016000, u1016001] 27 (0, 0))) ∧ Qz (IsS101 w0 w' g s0_0 x128_1) ∧ Qz (Qau w w' g none) ∧ Qz (Below w0.heap.size w0 w'))
 case atStart => exact ⟨(t155), (t160), (([] : List Int)), (([] : List Int)), (.slice none 0 0), (.slice none 0 0), zs, H', ⟨Nat.le_refl _⟩, ⟨by first | exact Kd.R_nil _ _ _ _ _ | exact Kd.N_nil _ _ _ _ _ | exact Kd.V_nil _ _ _ _ _ | exact Kd.Q_nil _ _ _ _ _ | exact Kd.S_nil _ _ _ _ _⟩, ⟨by first | exact Kd.R_nil _ _ _ _ _ | exact Kd.N_nil _ _ _ _ _ | exact Kd.V_nil _ _ _ _ _ | exact Kd.Q_nil _ _ _ _ _ | exact Kd.S_nil _ _ _ _ _⟩, ⟨zq BK123⟩, ⟨zq BK42⟩, ⟨by repeat (first | (with_reducible first | exact HI0.out | apply IsS101.alloc | apply IsS101.drewN | apply IsS101.drew | refine IsS101.far ?_ NB0_1014.out _ | refine IsS101.far ?_ NB0_1015.out _ | apply IsS101.set_1) | exact HI0.out)⟩, ⟨by repeat (first | (with_reducible first | exact HK.out | apply Qau.set_ | apply keep_drewN | apply keep_drew | apply keep_alloc | refine keep_far ?_ GW123.out _ | refine keep_far ?_ GW42.out _) | exact HK.out)⟩, ⟨by repeat (first | (with_reducible first | exact HB.out | apply Qc | apply Qa | apply Qb | refine Qd ?_ (IsS101.ge HI0.out) | refine Qd ?_ GE123.out | refine Qd ?_ GE42.out) | exact HB.out)⟩⟩
 case round =>
  clear H'
  try clear p2
  try clear c5
  try clear c6
  try clear c7
  try clear z7_0 z7_1 j7_0 j7_1
  obtain ⟨x4_1, x128_1, x40_1, x41_1, u1016000, u1016001, rfl, HA, HK1, HO_40, HO_41, BK123, BK42, HI0, HK, HB⟩ := hrel
  cases gk with
  | zero => exact absurd HA.out (by simp [Zsl3Log.l0])
  | succ k1 =>
   have H := HA.out
   clear HA
   simp only [Zsl3Log.l0] at H
   by_cases c9 : x4_1 > 0
   ·rw [if_pos c9] at H
    have c9b0 : decide (0 < x4_1) = true := decide_eq_true c9
    clear c9
    replace H := Option.bind_eq_some_iff.mp H
    obtain ⟨⟨t142, t143, t144, t145, t146, t147, t148, t149, t136⟩, A100, H⟩ := H
    replace H : ((Zsl3Append.f k1 x40_1 x41_1 t142 t143 t144 t145 t146 t147 t148 t149).bind fun bt125 => (if bt125.2.2 = 0 then ((Zsl1Chance.f s0_0 t136 3).bind fun bt151 => (if bt151.1 = true then ((Zsl3Flush.f bt125.1 bt125.2.1).bind fun bt134 => (Zsl3Log.l0 k1 (wrap64 (x4_1 - 1)) s0_0 bt151.2 bt134.1 bt134.2)) else (Zsl3Log.l0 k1 (wrap64 (x4_1 - 1)) s0_0 bt151.2 bt125.1 bt125.2.1))) else (none))) = some (r1, r2, r3) := H
    have A10 := Qz.mk A100
    clear A100
    replace H := Option.bind_eq_some_iff.mp H
    obtain ⟨⟨t125, t126, t152⟩, A110, H⟩ := H
    replace H : (if t152 = 0 then ((Zsl1Chance.f s0_0 t136 3).bind fun bt151 => (if bt151.1 = true then ((Zsl3Flush.f t125 t126).bind fun bt134 => (Zsl3Log.l0 k1 (wrap64 (x4_1 - 1)) s0_0 bt151.2 bt134.1 bt134.2)) else (Zsl3Log.l0 k1 (wrap64 (x4_1 - 1)) s0_0 bt151.2 t125 t126))) else (none)) = some (r1, r2, r3) := H
    have A11 := Qz.mk A110
    clear A110
    by_cases c12 : t152 = 0
    ·rw [if_pos c12] at H
     have c12b0 : (t152 == 0) = true := beq_iff_eq.mpr c12
     have c12b1 : (t152 != 0) = false := bne_eq_false_iff_eq.mpr c12
     clear c12
     replace H := Option.bind_eq_some_iff.mp H
     obtain ⟨⟨t151, t154⟩, A130, H⟩ := H
     replace H : (if t151 = true then ((Zsl3Flush.f t125 t126).bind fun bt134 => (Zsl3Log.l0 k1 (wrap64 (x4_1 - 1)) s0_0 t154 bt134.1 bt134.2)) else (Zsl3Log.l0 k1 (wrap64 (x4_1 - 1)) s0_0 t154 t125 t126)) = some (r1, r2, r3) := H
     have A13 := Qz.mk A130
     clear A130
     have HX_ := Qz.mk H
     clear H
     obtain ⟨Ao16, co16, eo16⟩ := Kd.R_slice HO_40.out
     subst eo16
     obtain ⟨Ao17, co17, eo17⟩ := Kd.R_slice HO_41.out
     subst eo17
     try go_wp2
     have n0_ := Qz.mk (Kd.Qo HO_40.out)
     have n1_ := Qz.mk (Kd.Qo HO_41.out)
     have n2_ := Qz.mk (Qg BK123.out)
     have n3_ := Qz.mk (Qg BK42.out)
     have n4_ := Qz.mk (IsS101.drew HI0.out)
     have n5_ := Qz.mk (keep_drew HK.out)
     have n6_ := Qz.mk (Qb HB.out)
     clear HO_40
     clear HO_41
     clear BK123
     clear BK42
     clear HI0
     clear HK
     clear HB
     have HO_40 := n0_
     have HO_41 := n1_
     have BK123 := n2_
     have BK42 := n3_
     have HI0 := n4_
     have HK := n5_
     have HB := n6_
     clear n0_ n1_ n2_ n3_ n4_ n5_ n6_
     refine start_ (n := 10) (S := fun w' => w'.cell? ⟨gb42, 0, none⟩ = some (.slice Ao16 x40_1.length co16) ∧ w'.cell? ⟨gb42, 1, none⟩ = some (.slice Ao17 x41_1.length co17)) (ds := []) #[Z, Z, Z, Z, Z, Z, Z, Z, Z, Z] (by kernel_rfl) rfl rfl ⟨(Qh BK42.out 0).trans rfl, (Qh BK42.out 1).trans rfl⟩ (fun hHeld => ?_); refine with_tabW Zsl3Log.tab5 Zsl3Log.bits5 (fun HT_ HW_ => ?_)
     generalize wr.drew = w18 at HO_40 HO_41 BK123 BK42 HI0 HK HB hHeld ⊢
     refine zp 1 16 ?_; refine zt 0 15 ?_
     refine join_ (σ := Value × Value × Nat) 2 #[Y, Y, Y, Y, Y, Y, Y, Y, Z, Z] (fun s_ => [(17, .agg #[.int .i64 t142, .int .i64 t143, .int .i64 t144, .bool t145, .int .i64 t146, .bool t147, .int .i64 t148, .int .i64 t149]), (18, .tuple #[.agg #[s_.1, s_.2.1], .int .i64 t152]), (5, .pointer (some ⟨s_.2.2, 0, none⟩)), (14, .tuple #[.agg #[s_.1, s_.2.1], .int .i64 t152]), (19, .agg #[s_.1, s_.2.1]), (20, .int .i64 t152)]) (fun s_ w' => (w'.cell? ⟨gb42, 0, none⟩ = some (.slice Ao16 x40_1.length co16) ∧ w'.cell? ⟨gb42, 1, none⟩ = some (.slice Ao17 x41_1.length co17)) ∧ (Kd.R (Kd.int .u8) 5 w' w.heap.size (fun k_ => some k_ ≠ (s_.2.1 : Value).ownBlock) s_.1 t125) ∧ (Kd.R (Kd.int .u8) 5 w' w.heap.size (fun k_ => some k_ ≠ (s_.1 : Value).ownBlock) s_.2.1 t126) ∧ (w'.heap[gb123]? = some (.cells #[.slice none 0 0, .slice none 0 0] 27 (0, 0))) ∧ (w'.heap[gb42]? = some (.cells #[.slice Ao16 x40_1.length co16, .slice Ao17 x41_1.length co17] 27 (0, 0))) ∧ (w'.heap[s_.2.2]? = some (.cells #[.slice none 0 0, .slice none 0 0] 27 (0, 0))) ∧ (w.heap.size ≤ s_.2.2) ∧ (w0.heap.size ≤ s_.2.2) ∧ (g ≠ s_.2.2) ∧ (s_.2.2 ≠ g) ∧ (gb123 ≠ s_.2.2) ∧ (s_.2.2 ≠ gb123) ∧ (gb42 ≠ s_.2.2) ∧ (s_.2.2 ≠ gb42) ∧ (IsS101 w0 w' g s0_0 t136) ∧ (Qau w w' g none) ∧ (Below w0.heap.size w0 w')) ?_ ?_
     rotate_left
     ·intro hCont
      refine two_ (i := 2) (j := 7) (Ni := some 17) (Nj := some 5) #[Y, Y, Y, Z, Z, Z, Z, Z, Z, Z] #[Y, Y, Z, Z, Z, Z, Z, Y, Z, Z] rfl rfl rfl rfl (two_of HT_.out (by kernel_rfl)) (by decide) (by decide) (fun K hK => ?_) (fun K hK => ?_)
      ·skip
       refine goes_ Try.func65 (by kernel_rfl) rfl #[.pointer (some ⟨g, 0, none⟩)] (by rfl) rfl rfl zm ?_
       with_reducible refine (Zsl3Rec.calls k1 g s0_0 x128_1 t142 t143 t144 t145 t146 t147 t148 t149 t136 w0 _ ?side1 ?side2 A10.out).mono ?_
       (case side1 => exact yq3)
       (case side2 => exact yq1)
       rintro e w19 ⟨rfl, hi, hb, hk⟩
       refine ⟨_, rfl, ?_⟩
       have n0_ := Qz.mk (Kd.Qw (Kd.R_keep (IsS101.apart (show IsS101 w0 _ g s0_0 x128_1 from by repeat (first | (with_reducible first | exact HI0.out | apply IsS101.alloc | apply IsS101.drewN | apply IsS101.drew | refine IsS101.far ?_ NB0_1014.out _ | refine IsS101.far ?_ NB0_1015.out _ | apply IsS101.set_1) | exact HI0.out)) (zr HO_40) (by decide)) hk (fun _ h => h.2)) (fun _ h => h.1))
       have n1_ := Qz.mk (Kd.Qw (Kd.R_keep (IsS101.apart (show IsS101 w0 _ g s0_0 x128_1 from by repeat (first | (with_reducible first | exact HI0.out | apply IsS101.alloc | apply IsS101.drewN | apply IsS101.drew | refine IsS101.far ?_ NB0_1014.out _ | refine IsS101.far ?_ NB0_1015.out _ | apply IsS101.set_1) | exact HI0.out)) (zr HO_41) (by decide)) hk (fun _ h => h.2)) (fun _ h => h.1))
       have n2_ := Qz.mk (Qau.blk hk (g' := gb123) (o := .cells #[.slice none 0 0, .slice none 0 0] 27 (0, 0)) zk NB1014_0.out (by simp))
       have n3_ := Qz.mk (Qau.blk hk (g' := gb42) (o := .cells #[.slice Ao16 x40_1.length co16, .slice Ao17 x41_1.length co17] 27 (0, 0)) zk NB1015_0.out (by simp))
       have n4_ := Qz.mk (Qau.trans yq0 hk (.inl rfl))
       have n5_ := Qz.mk (hb)
       have n6_ := Qz.mk (hi)
       clear HO_40
       clear HO_41
       clear BK123
       clear BK42
       clear HK
       clear HB
       clear HI0
       have HO_40 := n0_
       have HO_41 := n1_
       have BK123 := n2_
       have BK42 := n3_
       have HK := n4_
       have HB := n5_
       have HI0 := n6_
       clear n0_ n1_ n2_ n3_ n4_ n5_ n6_
       (try clear hb)
       (try clear hb2)
       (try clear hk)
       (try clear hi)
       refine hK.out _ _ ⟨(Qh BK42.out 0).trans rfl, (Qh BK42.out 1).trans rfl⟩ (fun hHeld => ?_)
       clear hK K
       refine norm_ (a' := ?_) ?_ ?_
       rotate_left
       ·show Act.put _ (some 17) _ = _
        simp only [Act.put, List.setIfInBounds_toArray, List.set_cons_zero, List.set_cons_succ, Qar, Qas]
        rfl
       refine two_ (i := 3) (j := 7) (Ni := some 18) (Nj := some 5) #[Y, Y, Y, Y, Z, Z, Z, Z, Z, Z] #[Y, Y, Y, Z, Z, Z, Z, Y, Z, Z] rfl rfl rfl rfl (two_of HT_.out (by kernel_rfl)) (by decide) (by decide) (fun K hK => ?_) (fun K hK => ?_)
       ·skip
        refine goes_ Try.func93 (by kernel_rfl) rfl #[.agg #[.slice Ao16 x40_1.length co16, .slice Ao17 x41_1.length co17], .agg #[.int .i64 t142, .int .i64 t143, .int .i64 t144, .bool t145, .int .i64 t146, .bool t147, .int .i64 t148, .int .i64 t149]] (by rfl) rfl rfl zm ?_
        with_reducible refine (Zsl3Append.calls k1 (fun k_ => some k_ = (.slice Ao16 x40_1.length co16 : Value).ownBlock) (.slice Ao16 x40_1.length co16) x40_1 (fun k_ => some k_ = (.slice Ao17 x41_1.length co17 : Value).ownBlock) (.slice Ao17 x41_1.length co17) x41_1 t142 t143 t144 t145 t146 t147 t148 t149 t125 t126 t152 w0 _ ?side1 ?side2 ?side3 ?side4 ?side5 A11.out).mono ?_
        (case side1 => exact yq1)
        (case side2 => exact Kd.Qan (Kd.R_tight rfl HO_40.out) HL.out)
        (case side3 => exact fun k_ e_ => (HO_40.out.1 k_ e_.symm))
        (case side4 => exact Kd.Qan (Kd.R_tight rfl HO_41.out) HL.out)
        (case side5 => exact fun k_ e_ => (HO_41.out.1 k_ e_.symm))
        rintro e w20 ⟨v140, v141, rfl, ho0, ho1, hb, hkp⟩
        refine ⟨_, rfl, ?_⟩
        have n0_ := Qz.mk (blk_kept zk hkp (fun hs_ => Or.elim hs_ (fun e_ => (fun e_ => (Kd.R_ne HO_40.out BK123.out (by decide)) e_) e_) (fun e_ => (fun e_ => (Kd.R_ne HO_41.out BK123.out (by decide)) e_) e_)))
        have n1_ := Qz.mk (blk_kept zk hkp (fun hs_ => Or.elim hs_ (fun e_ => (fun e_ => (Kd.R_ne HO_40.out BK42.out (by decide)) e_) e_) (fun e_ => (fun e_ => (Kd.R_ne HO_41.out BK42.out (by decide)) e_) e_)))
        have n2_ := Qz.mk (IsS101.kept yq3 hkp (fun hs_ => Or.elim hs_ (fun e_ => (fun e_ => (IsS101.own_ne HI0.out HO_40.out (by decide)) e_) e_) (fun e_ => (fun e_ => (IsS101.own_ne HI0.out HO_41.out (by decide)) e_) e_)))
        have n3_ := Qz.mk (Kd.Qw (ok' := fun k_ => some k_ ≠ (v141 : Value).ownBlock) (Kd.R_raise (d := (Kd.int .u8)) (b := w0.heap.size) (b' := w.heap.size) (fun _ _ _ _ h_ => h_) ho0 (fun k_ e_ => Or.elim (ho0.1 k_ e_).1 (fun hs_ => Or.elim hs_ (fun e_ => (fun e_ => Kd.Qah HO_40.out k_ e_.symm) e_) (fun e_ => (fun e_ => Kd.Qah HO_41.out k_ e_.symm) e_)) (fun hn_ => Nat.le_trans (keep_size (w := w) (g := g) (row := none) yq0) hn_))) (fun k_ hk_ => hk_.2))
        have n4_ := Qz.mk (Kd.Qw (ok' := fun k_ => some k_ ≠ (v140 : Value).ownBlock) (Kd.R_raise (d := (Kd.int .u8)) (b := w0.heap.size) (b' := w.heap.size) (fun _ _ _ _ h_ => h_) ho1 (fun k_ e_ => Or.elim (ho1.1 k_ e_).1 (fun hs_ => Or.elim hs_ (fun e_ => (fun e_ => Kd.Qah HO_40.out k_ e_.symm) e_) (fun e_ => (fun e_ => Kd.Qah HO_41.out k_ e_.symm) e_)) (fun hn_ => Nat.le_trans (keep_size (w := w) (g := g) (row := none) yq0) hn_))) (fun k_ hk_ => hk_.2))
        have n5_ := Qz.mk (Kept.keepG yq0 hkp (fun k_ hs_ => Or.elim hs_ (fun e_ => (fun e_ => .inr (Kd.Qah HO_40.out k_ e_.symm)) e_) (fun e_ => (fun e_ => .inr (Kd.Qah HO_41.out k_ e_.symm)) e_)))
        have n6_ := Qz.mk (hb)
        clear BK123
        clear BK42
        clear HI0
        clear HK
        clear HB
        clear HO_40
        clear HO_41
        have BK123 := n0_
        have BK42 := n1_
        have HI0 := n2_
        have HO129 := n3_
        have HO131 := n4_
        have HK := n5_
        have HB := n6_
        clear n0_ n1_ n2_ n3_ n4_ n5_ n6_
        (try clear hb)
        (try clear hkp)
        (try clear ho0)
        (try clear ho1)
        refine hK.out _ _ ⟨(Qh BK42.out 0).trans rfl, (Qh BK42.out 1).trans rfl⟩ (fun hHeld => ?_)
        clear hK K
        refine norm_ (a' := ?_) ?_ ?_
        rotate_left
        ·show Act.put _ (some 18) _ = _
         simp only [Act.put, List.setIfInBounds_toArray, List.set_cons_zero, List.set_cons_succ, Qar, Qas]
         rfl
        refine zp 4 14 ?_; refine zp 5 19 ?_; refine zp 6 20 ?_
        refine one_ (i := 7) (N := some 5) #[Y, Y, Y, Y, Y, Y, Y, Y, Z, Z] rfl rfl (one_of HT_.out (by kernel_rfl)) (by decide) (fun K hK => ?_)
        refine box_step ?hg (N := 5) ?hd (cs := #[.slice none 0 0, .slice none 0 0]) (t := 27) ?hr ?_; (case hd => rfl); (case hg => rfl); (case hr => exact yq20)
        intro gb124 hg w21 hbox hb
        have n0_ := Qz.mk (Kd.Qy (zr HO129) hb)
        have n1_ := Qz.mk (Kd.Qy (zr HO131) hb)
        have n2_ := Qz.mk (Qi (g := gb123) (o := .cells #[.slice none 0 0, .slice none 0 0] 27 (0, 0)) zk hb)
        have n3_ := Qz.mk (Qi (g := gb42) (o := .cells #[.slice Ao16 x40_1.length co16, .slice Ao17 x41_1.length co17] 27 (0, 0)) zk hb)
        have n4_ := Qz.mk (IsS101.below yq3 hb)
        have n5_ := Qz.mk (Qau.trans yq0 (Qau.of_below hb g none) (.inl rfl))
        have n6_ := Qz.mk (Qq yq1 hb)
        have n7_ := Qz.mk (hbox)
        have n8_ := Qz.mk ((yq14 : w.heap.size ≤ gb124))
        have n9_ := Qz.mk ((Nat.le_trans HW0.out (yq14 : w.heap.size ≤ gb124) : w0.heap.size ≤ gb124))
        have n10_ := Qz.mk ((yq11 : gb123 ≠ gb124))
        have n11_ := Qz.mk ((yq12 : gb124 ≠ gb123))
        have n12_ := Qz.mk ((yq17 : gb42 ≠ gb124))
        have n13_ := Qz.mk ((yq18 : gb124 ≠ gb42))
        have n14_ := Qz.mk ((yq15 : g ≠ gb124))
        have n15_ := Qz.mk ((yq16 : gb124 ≠ g))
        clear HO129
        clear HO131
        clear BK123
        clear BK42
        clear HI0
        clear HK
        clear HB
        have HO129 := n0_
        have HO131 := n1_
        have BK123 := n2_
        have BK42 := n3_
        have HI0 := n4_
        have HK := n5_
        have HB := n6_
        have BK124 := n7_
        have GW124 := n8_
        have GE124 := n9_
        have NB1014_1034 := n10_
        have NB1034_1014 := n11_
        have NB1015_1034 := n12_
        have NB1034_1015 := n13_
        have NB0_1034 := n14_
        have NB1034_0 := n15_
        clear n0_ n1_ n2_ n3_ n4_ n5_ n6_ n7_ n8_ n9_ n10_ n11_ n12_ n13_ n14_ n15_
        clear hb hbox hg
        refine hK.out _ _ ⟨(Qh BK42.out 0).trans rfl, (Qh BK42.out 1).trans rfl⟩ (fun hHeld => ?_)
        clear hK K
        refine norm_ (a' := ?_) ?_ ?_
        rotate_left
        ·show Act.put _ (some 5) _ = _
         simp only [Act.put, List.setIfInBounds_toArray, List.set_cons_zero, List.set_cons_succ, Qar, Qas]
         rfl
        exact norm_ yq21 (hCont (v140, v141, gb124) _ ⟨hHeld, (zr HO129), (zr HO131), zk, zk, zk, GW124.out, GE124.out, NB0_1034.out, NB1034_0.out, NB1014_1034.out, NB1034_1014.out, NB1015_1034.out, NB1034_1015.out, yq5, yq2, yq4⟩)
       skip
       refine box_step ?hg (N := 5) ?hd (cs := #[.slice none 0 0, .slice none 0 0]) (t := 27) ?hr ?_; (case hd => rfl); (case hg => rfl); (case hr => exact yq20)
       intro gb124 hg w20 hbox hb
       have n0_ := Qz.mk (Kd.Qy (zr HO_40) hb)
       have n1_ := Qz.mk (Kd.Qy (zr HO_41) hb)
       have n2_ := Qz.mk (Qi (g := gb123) (o := .cells #[.slice none 0 0, .slice none 0 0] 27 (0, 0)) zk hb)
       have n3_ := Qz.mk (Qi (g := gb42) (o := .cells #[.slice Ao16 x40_1.length co16, .slice Ao17 x41_1.length co17] 27 (0, 0)) zk hb)
       have n4_ := Qz.mk (IsS101.below yq3 hb)
       have n5_ := Qz.mk (Qau.trans yq0 (Qau.of_below hb g none) (.inl rfl))
       have n6_ := Qz.mk (Qq yq1 hb)
       have n7_ := Qz.mk (hbox)
       have n8_ := Qz.mk ((yq14 : w.heap.size ≤ gb124))
       have n9_ := Qz.mk ((Nat.le_trans HW0.out (yq14 : w.heap.size ≤ gb124) : w0.heap.size ≤ gb124))
       have n10_ := Qz.mk ((yq11 : gb123 ≠ gb124))
       have n11_ := Qz.mk ((yq12 : gb124 ≠ gb123))
       have n12_ := Qz.mk ((yq17 : gb42 ≠ gb124))
       have n13_ := Qz.mk ((yq18 : gb124 ≠ gb42))
       have n14_ := Qz.mk ((yq15 : g ≠ gb124))
       have n15_ := Qz.mk ((yq16 : gb124 ≠ g))
       clear HO_40
       clear HO_41
       clear BK123
       clear BK42
       clear HI0
       clear HK
       clear HB
       have HO_40 := n0_
       have HO_41 := n1_
       have BK123 := n2_
       have BK42 := n3_
       have HI0 := n4_
       have HK := n5_
       have HB := n6_
       have BK124 := n7_
       have GW124 := n8_
       have GE124 := n9_
       have NB1014_1034 := n10_
       have NB1034_1014 := n11_
       have NB1015_1034 := n12_
       have NB1034_1015 := n13_
       have NB0_1034 := n14_
       have NB1034_0 := n15_
       clear n0_ n1_ n2_ n3_ n4_ n5_ n6_ n7_ n8_ n9_ n10_ n11_ n12_ n13_ n14_ n15_
       clear hb hbox hg
       refine hK.out _ _ ⟨(Qh BK42.out 0).trans rfl, (Qh BK42.out 1).trans rfl⟩ (fun hHeld => ?_)
       clear hK K
       refine norm_ (a' := ?_) ?_ ?_
       rotate_left
       ·show Act.put _ (some 5) _ = _
        simp only [Act.put, List.setIfInBounds_toArray, List.set_cons_zero, List.set_cons_succ, Qar, Qas]
        rfl
       refine one_ (i := 3) (N := some 18) #[Y, Y, Y, Y, Z, Z, Z, Y, Z, Z] rfl rfl (one_of HT_.out (by kernel_rfl)) (by decide) (fun K hK => ?_)
       refine goes_ Try.func93 (by kernel_rfl) rfl #[.agg #[.slice Ao16 x40_1.length co16, .slice Ao17 x41_1.length co17], .agg #[.int .i64 t142, .int .i64 t143, .int .i64 t144, .bool t145, .int .i64 t146, .bool t147, .int .i64 t148, .int .i64 t149]] (by rfl) rfl rfl zm ?_
       with_reducible refine (Zsl3Append.calls k1 (fun k_ => some k_ = (.slice Ao16 x40_1.length co16 : Value).ownBlock) (.slice Ao16 x40_1.length co16) x40_1 (fun k_ => some k_ = (.slice Ao17 x41_1.length co17 : Value).ownBlock) (.slice Ao17 x41_1.length co17) x41_1 t142 t143 t144 t145 t146 t147 t148 t149 t125 t126 t152 w0 _ ?side1 ?side2 ?side3 ?side4 ?side5 A11.out).mono ?_
       (case side1 => exact yq4)
       (case side2 => exact Kd.Qan (Kd.R_tight rfl HO_40.out) HL.out)
       (case side3 => exact fun k_ e_ => (HO_40.out.1 k_ e_.symm))
       (case side4 => exact Kd.Qan (Kd.R_tight rfl HO_41.out) HL.out)
       (case side5 => exact fun k_ e_ => (HO_41.out.1 k_ e_.symm))
       rintro e w21 ⟨v140, v141, rfl, ho0, ho1, hb, hkp⟩
       refine ⟨_, rfl, ?_⟩
       have n0_ := Qz.mk (blk_kept zk hkp (fun hs_ => Or.elim hs_ (fun e_ => (fun e_ => (Kd.R_ne HO_40.out BK123.out (by decide)) e_) e_) (fun e_ => (fun e_ => (Kd.R_ne HO_41.out BK123.out (by decide)) e_) e_)))
       have n1_ := Qz.mk (blk_kept zk hkp (fun hs_ => Or.elim hs_ (fun e_ => (fun e_ => (Kd.R_ne HO_40.out BK42.out (by decide)) e_) e_) (fun e_ => (fun e_ => (Kd.R_ne HO_41.out BK42.out (by decide)) e_) e_)))
       have n2_ := Qz.mk (IsS101.kept yq5 hkp (fun hs_ => Or.elim hs_ (fun e_ => (fun e_ => (IsS101.own_ne HI0.out HO_40.out (by decide)) e_) e_) (fun e_ => (fun e_ => (IsS101.own_ne HI0.out HO_41.out (by decide)) e_) e_)))
       have n3_ := Qz.mk (blk_kept zk hkp (fun hs_ => Or.elim hs_ (fun e_ => (fun e_ => (Kd.R_ne HO_40.out BK124.out (by decide)) e_) e_) (fun e_ => (fun e_ => (Kd.R_ne HO_41.out BK124.out (by decide)) e_) e_)))
       have n4_ := Qz.mk (Kd.Qw (ok' := fun k_ => some k_ ≠ (v141 : Value).ownBlock) (Kd.R_raise (d := (Kd.int .u8)) (b := w0.heap.size) (b' := w.heap.size) (fun _ _ _ _ h_ => h_) ho0 (fun k_ e_ => Or.elim (ho0.1 k_ e_).1 (fun hs_ => Or.elim hs_ (fun e_ => (fun e_ => Kd.Qah HO_40.out k_ e_.symm) e_) (fun e_ => (fun e_ => Kd.Qah HO_41.out k_ e_.symm) e_)) (fun hn_ => Nat.le_trans (keep_size (w := w) (g := g) (row := none) yq2) hn_))) (fun k_ hk_ => hk_.2))
       have n5_ := Qz.mk (Kd.Qw (ok' := fun k_ => some k_ ≠ (v140 : Value).ownBlock) (Kd.R_raise (d := (Kd.int .u8)) (b := w0.heap.size) (b' := w.heap.size) (fun _ _ _ _ h_ => h_) ho1 (fun k_ e_ => Or.elim (ho1.1 k_ e_).1 (fun hs_ => Or.elim hs_ (fun e_ => (fun e_ => Kd.Qah HO_40.out k_ e_.symm) e_) (fun e_ => (fun e_ => Kd.Qah HO_41.out k_ e_.symm) e_)) (fun hn_ => Nat.le_trans (keep_size (w := w) (g := g) (row := none) yq2) hn_))) (fun k_ hk_ => hk_.2))
       have n6_ := Qz.mk (Kept.keepG yq2 hkp (fun k_ hs_ => Or.elim hs_ (fun e_ => (fun e_ => .inr (Kd.Qah HO_40.out k_ e_.symm)) e_) (fun e_ => (fun e_ => .inr (Kd.Qah HO_41.out k_ e_.symm)) e_)))
       have n7_ := Qz.mk (hb)
       clear BK123
       clear BK42
       clear HI0
       clear BK124
       clear HK
       clear HB
       clear HO_40
       clear HO_41
       have BK123 := n0_
       have BK42 := n1_
       have HI0 := n2_
       have BK124 := n3_
       have HO129 := n4_
       have HO131 := n5_
       have HK := n6_
       have HB := n7_
       clear n0_ n1_ n2_ n3_ n4_ n5_ n6_ n7_
       (try clear hb)
       (try clear hkp)
       (try clear ho0)
       (try clear ho1)
       refine hK.out _ _ ⟨(Qh BK42.out 0).trans rfl, (Qh BK42.out 1).trans rfl⟩ (fun hHeld => ?_)
       clear hK K
       refine norm_ (a' := ?_) ?_ ?_
       rotate_left
       ·show Act.put _ (some 18) _ = _
        simp only [Act.put, List.setIfInBounds_toArray, List.set_cons_zero, List.set_cons_succ, Qar, Qas]
        rfl
       refine zp 4 14 ?_; refine zp 5 19 ?_; refine zp 6 20 ?_
       exact norm_ yq21 (hCont (v140, v141, gb124) _ ⟨hHeld, (zr HO129), (zr HO131), zk, zk, zk, GW124.out, GE124.out, NB0_1034.out, NB1034_0.out, NB1014_1034.out, NB1034_1014.out, NB1015_1034.out, NB1034_1015.out, yq5, yq2, yq4⟩)
      skip
      refine box_step ?hg (N := 5) ?hd (cs := #[.slice none 0 0, .slice none 0 0]) (t := 27) ?hr ?_; (case hd => rfl); (case hg => rfl); (case hr => exact yq20)
      intro gb124 hg w19 hbox hb
      have n0_ := Qz.mk (Kd.Qy (zr HO_40) hb)
      have n1_ := Qz.mk (Kd.Qy (zr HO_41) hb)
      have n2_ := Qz.mk (Qi (g := gb123) (o := .cells #[.slice none 0 0, .slice none 0 0] 27 (0, 0)) zk hb)
      have n3_ := Qz.mk (Qi (g := gb42) (o := .cells #[.slice Ao16 x40_1.length co16, .slice Ao17 x41_1.length co17] 27 (0, 0)) zk hb)
      have n4_ := Qz.mk (IsS101.below yq3 hb)
      have n5_ := Qz.mk (Qau.trans yq0 (Qau.of_below hb g none) (.inl rfl))
      have n6_ := Qz.mk (Qq yq1 hb)
      have n7_ := Qz.mk (hbox)
      have n8_ := Qz.mk ((yq14 : w.heap.size ≤ gb124))
      have n9_ := Qz.mk ((Nat.le_trans HW0.out (yq14 : w.heap.size ≤ gb124) : w0.heap.size ≤ gb124))
      have n10_ := Qz.mk ((yq11 : gb123 ≠ gb124))
      have n11_ := Qz.mk ((yq12 : gb124 ≠ gb123))
      have n12_ := Qz.mk ((yq17 : gb42 ≠ gb124))
      have n13_ := Qz.mk ((yq18 : gb124 ≠ gb42))
      have n14_ := Qz.mk ((by rw [hg]; exact Nat.ne_of_lt (IsS101.lt (show IsS101 w0 _ g s0_0 x128_1 from by repeat (first | (with_reducible first | exact HI0.out | apply IsS101.alloc | apply IsS101.drewN | apply IsS101.drew | refine IsS101.far ?_ NB0_1014.out _ | refine IsS101.far ?_ NB0_1015.out _ | apply IsS101.set_1) | exact HI0.out))) : g ≠ gb124))
      have n15_ := Qz.mk ((by rw [hg]; exact Nat.ne_of_gt (IsS101.lt (show IsS101 w0 _ g s0_0 x128_1 from by repeat (first | (with_reducible first | exact HI0.out | apply IsS101.alloc | apply IsS101.drewN | apply IsS101.drew | refine IsS101.far ?_ NB0_1014.out _ | refine IsS101.far ?_ NB0_1015.out _ | apply IsS101.set_1) | exact HI0.out))) : gb124 ≠ g))
      clear HO_40
      clear HO_41
      clear BK123
      clear BK42
      clear HI0
      clear HK
      clear HB
      have HO_40 := n0_
      have HO_41 := n1_
      have BK123 := n2_
      have BK42 := n3_
      have HI0 := n4_
      have HK := n5_
      have HB := n6_
      have BK124 := n7_
      have GW124 := n8_
      have GE124 := n9_
      have NB1014_1034 := n10_
      have NB1034_1014 := n11_
      have NB1015_1034 := n12_
      have NB1034_1015 := n13_
      have NB0_1034 := n14_
      have NB1034_0 := n15_
      clear n0_ n1_ n2_ n3_ n4_ n5_ n6_ n7_ n8_ n9_ n10_ n11_ n12_ n13_ n14_ n15_
      clear hb hbox hg
      refine hK.out _ _ ⟨(Qh BK42.out 0).trans rfl, (Qh BK42.out 1).trans rfl⟩ (fun hHeld => ?_)
      clear hK K
      refine norm_ (a' := ?_) ?_ ?_
      rotate_left
      ·show Act.put _ (some 5) _ = _
       simp only [Act.put, List.setIfInBounds_toArray, List.set_cons_zero, List.set_cons_succ, Qar, Qas]
       rfl
      refine one_ (i := 2) (N := some 17) #[Y, Y, Y, Z, Z, Z, Z, Y, Z, Z] rfl rfl (one_of HT_.out (by kernel_rfl)) (by decide) (fun K hK => ?_)
      refine goes_ Try.func65 (by kernel_rfl) rfl #[.pointer (some ⟨g, 0, none⟩)] (by rfl) rfl rfl zm ?_
      with_reducible refine (Zsl3Rec.calls k1 g s0_0 x128_1 t142 t143 t144 t145 t146 t147 t148 t149 t136 w0 _ ?side1 ?side2 A10.out).mono ?_
      (case side1 => exact yq5)
      (case side2 => exact yq4)
      rintro e w20 ⟨rfl, hi, hb, hk⟩
      refine ⟨_, rfl, ?_⟩
      have n0_ := Qz.mk (Kd.Qw (Kd.R_keep (IsS101.apart (show IsS101 w0 _ g s0_0 x128_1 from by repeat (first | (with_reducible first | exact HI0.out | apply IsS101.alloc | apply IsS101.drewN | apply IsS101.drew | refine IsS101.far ?_ NB0_1014.out _ | refine IsS101.far ?_ NB0_1015.out _ | refine IsS101.far ?_ NB0_1034.out _ | apply IsS101.set_1) | exact HI0.out)) (zr HO_40) (by decide)) hk (fun _ h => h.2)) (fun _ h => h.1))
      have n1_ := Qz.mk (Kd.Qw (Kd.R_keep (IsS101.apart (show IsS101 w0 _ g s0_0 x128_1 from by repeat (first | (with_reducible first | exact HI0.out | apply IsS101.alloc | apply IsS101.drewN | apply IsS101.drew | refine IsS101.far ?_ NB0_1014.out _ | refine IsS101.far ?_ NB0_1015.out _ | refine IsS101.far ?_ NB0_1034.out _ | apply IsS101.set_1) | exact HI0.out)) (zr HO_41) (by decide)) hk (fun _ h => h.2)) (fun _ h => h.1))
      have n2_ := Qz.mk (Qau.blk hk (g' := gb123) (o := .cells #[.slice none 0 0, .slice none 0 0] 27 (0, 0)) zk NB1014_0.out (by simp))
      have n3_ := Qz.mk (Qau.blk hk (g' := gb42) (o := .cells #[.slice Ao16 x40_1.length co16, .slice Ao17 x41_1.length co17] 27 (0, 0)) zk NB1015_0.out (by simp))
      have n4_ := Qz.mk (Qau.blk hk (g' := gb124) (o := .cells #[.slice none 0 0, .slice none 0 0] 27 (0, 0)) zk NB1034_0.out (by simp))
      have n5_ := Qz.mk (Qau.trans yq2 hk (.inl rfl))
      have n6_ := Qz.mk (hb)
      have n7_ := Qz.mk (hi)
      clear HO_40
      clear HO_41
      clear BK123
      clear BK42
      clear BK124
      clear HK
      clear HB
      clear HI0
      have HO_40 := n0_
      have HO_41 := n1_
      have BK123 := n2_
      have BK42 := n3_
      have BK124 := n4_
      have HK := n5_
      have HB := n6_
      have HI0 := n7_
      clear n0_ n1_ n2_ n3_ n4_ n5_ n6_ n7_
      (try clear hb)
      (try clear hb2)
      (try clear hk)
      (try clear hi)
      refine hK.out _ _ ⟨(Qh BK42.out 0).trans rfl, (Qh BK42.out 1).trans rfl⟩ (fun hHeld => ?_)
      clear hK K
      refine norm_ (a' := ?_) ?_ ?_
      rotate_left
      ·show Act.put _ (some 17) _ = _
       simp only [Act.put, List.setIfInBounds_toArray, List.set_cons_zero, List.set_cons_succ, Qar, Qas]
       rfl
      refine one_ (i := 3) (N := some 18) #[Y, Y, Y, Y, Z, Z, Z, Y, Z, Z] rfl rfl (one_of HT_.out (by kernel_rfl)) (by decide) (fun K hK => ?_)
      refine goes_ Try.func93 (by kernel_rfl) rfl #[.agg #[.slice Ao16 x40_1.length co16, .slice Ao17 x41_1.length co17], .agg #[.int .i64 t142, .int .i64 t143, .int .i64 t144, .bool t145, .int .i64 t146, .bool t147, .int .i64 t148, .int .i64 t149]] (by rfl) rfl rfl zm ?_
      with_reducible refine (Zsl3Append.calls k1 (fun k_ => some k_ = (.slice Ao16 x40_1.length co16 : Value).ownBlock) (.slice Ao16 x40_1.length co16) x40_1 (fun k_ => some k_ = (.slice Ao17 x41_1.length co17 : Value).ownBlock) (.slice Ao17 x41_1.length co17) x41_1 t142 t143 t144 t145 t146 t147 t148 t149 t125 t126 t152 w0 _ ?side1 ?side2 ?side3 ?side4 ?side5 A11.out).mono ?_
      (case side1 => exact yq4)
      (case side2 => exact Kd.Qan (Kd.R_tight rfl HO_40.out) HL.out)
      (case side3 => exact fun k_ e_ => (HO_40.out.1 k_ e_.symm))
      (case side4 => exact Kd.Qan (Kd.R_tight rfl HO_41.out) HL.out)
      (case side5 => exact fun k_ e_ => (HO_41.out.1 k_ e_.symm))
      rintro e w21 ⟨v140, v141, rfl, ho0, ho1, hb, hkp⟩
      refine ⟨_, rfl, ?_⟩
      have n0_ := Qz.mk (blk_kept zk hkp (fun hs_ => Or.elim hs_ (fun e_ => (fun e_ => (Kd.R_ne HO_40.out BK123.out (by decide)) e_) e_) (fun e_ => (fun e_ => (Kd.R_ne HO_41.out BK123.out (by decide)) e_) e_)))
      have n1_ := Qz.mk (blk_kept zk hkp (fun hs_ => Or.elim hs_ (fun e_ => (fun e_ => (Kd.R_ne HO_40.out BK42.out (by decide)) e_) e_) (fun e_ => (fun e_ => (Kd.R_ne HO_41.out BK42.out (by decide)) e_) e_)))
      have n2_ := Qz.mk (IsS101.kept yq5 hkp (fun hs_ => Or.elim hs_ (fun e_ => (fun e_ => (IsS101.own_ne HI0.out HO_40.out (by decide)) e_) e_) (fun e_ => (fun e_ => (IsS101.own_ne HI0.out HO_41.out (by decide)) e_) e_)))
      have n3_ := Qz.mk (blk_kept zk hkp (fun hs_ => Or.elim hs_ (fun e_ => (fun e_ => (Kd.R_ne HO_40.out BK124.out (by decide)) e_) e_) (fun e_ => (fun e_ => (Kd.R_ne HO_41.out BK124.out (by decide)) e_) e_)))
      have n4_ := Qz.mk (Kd.Qw (ok' := fun k_ => some k_ ≠ (v141 : Value).ownBlock) (Kd.R_raise (d := (Kd.int .u8)) (b := w0.heap.size) (b' := w.heap.size) (fun _ _ _ _ h_ => h_) ho0 (fun k_ e_ => Or.elim (ho0.1 k_ e_).1 (fun hs_ => Or.elim hs_ (fun e_ => (fun e_ => Kd.Qah HO_40.out k_ e_.symm) e_) (fun e_ => (fun e_ => Kd.Qah HO_41.out k_ e_.symm) e_)) (fun hn_ => Nat.le_trans (keep_size (w := w) (g := g) (row := none) yq2) hn_))) (fun k_ hk_ => hk_.2))
      have n5_ := Qz.mk (Kd.Qw (ok' := fun k_ => some k_ ≠ (v140 : Value).ownBlock) (Kd.R_raise (d := (Kd.int .u8)) (b := w0.heap.size) (b' := w.heap.size) (fun _ _ _ _ h_ => h_) ho1 (fun k_ e_ => Or.elim (ho1.1 k_ e_).1 (fun hs_ => Or.elim hs_ (fun e_ => (fun e_ => Kd.Qah HO_40.out k_ e_.symm) e_) (fun e_ => (fun e_ => Kd.Qah HO_41.out k_ e_.symm) e_)) (fun hn_ => Nat.le_trans (keep_size (w := w) (g := g) (row := none) yq2) hn_))) (fun k_ hk_ => hk_.2))
      have n6_ := Qz.mk (Kept.keepG yq2 hkp (fun k_ hs_ => Or.elim hs_ (fun e_ => (fun e_ => .inr (Kd.Qah HO_40.out k_ e_.symm)) e_) (fun e_ => (fun e_ => .inr (Kd.Qah HO_41.out k_ e_.symm)) e_)))
      have n7_ := Qz.mk (hb)
      clear BK123
      clear BK42
      clear HI0
      clear BK124
      clear HK
      clear HB
      clear HO_40
      clear HO_41
      have BK123 := n0_
      have BK42 := n1_
      have HI0 := n2_
      have BK124 := n3_
      have HO129 := n4_
      have HO131 := n5_
      have HK := n6_
      have HB := n7_
      clear n0_ n1_ n2_ n3_ n4_ n5_ n6_ n7_
      (try clear hb)
      (try clear hkp)
      (try clear ho0)
      (try clear ho1)
      refine hK.out _ _ ⟨(Qh BK42.out 0).trans rfl, (Qh BK42.out 1).trans rfl⟩ (fun hHeld => ?_)
      clear hK K
      refine norm_ (a' := ?_) ?_ ?_
      rotate_left
      ·show Act.put _ (some 18) _ = _
       simp only [Act.put, List.setIfInBounds_toArray, List.set_cons_zero, List.set_cons_succ, Qar, Qas]
       rfl
      refine zp 4 14 ?_; refine zp 5 19 ?_; refine zp 6 20 ?_
      exact norm_ yq21 (hCont (v140, v141, gb124) _ ⟨hHeld, (zr HO129), (zr HO131), zk, zk, zk, GW124.out, GE124.out, NB0_1034.out, NB1034_0.out, NB1014_1034.out, NB1034_1014.out, NB1015_1034.out, NB1034_1015.out, yq5, yq2, yq4⟩)
     rintro ⟨v140, v141, gb124⟩ w22 ⟨hS_, h0_, h1_, h2_, h3_, h4_, h5_, h6_, h7_, h8_, h9_, h10_, h11_, h12_, h13_, h14_, h15_⟩
     have n0_ : Qz (Kd.R (Kd.int .u8) 5 w22 w.heap.size (fun k_ => some k_ ≠ (v141 : Value).ownBlock) v140 t125) := ⟨h0_⟩
     have n1_ : Qz (Kd.R (Kd.int .u8) 5 w22 w.heap.size (fun k_ => some k_ ≠ (v140 : Value).ownBlock) v141 t126) := ⟨h1_⟩
     have n2_ : Qz (w22.heap[gb123]? = some (.cells #[.slice none 0 0, .slice none 0 0] 27 (0, 0))) := ⟨h2_⟩
     have n3_ : Qz (w22.heap[gb42]? = some (.cells #[.slice Ao16 x40_1.length co16, .slice Ao17 x41_1.length co17] 27 (0, 0))) := ⟨h3_⟩
     have n4_ : Qz (w22.heap[gb124]? = some (.cells #[.slice none 0 0, .slice none 0 0] 27 (0, 0))) := ⟨h4_⟩
     have n5_ : Qz (w.heap.size ≤ gb124) := ⟨h5_⟩
     have n6_ : Qz (w0.heap.size ≤ gb124) := ⟨h6_⟩
     have n7_ : Qz (g ≠ gb124) := ⟨h7_⟩
     have n8_ : Qz (gb124 ≠ g) := ⟨h8_⟩
     have n9_ : Qz (gb123 ≠ gb124) := ⟨h9_⟩
     have n10_ : Qz (gb124 ≠ gb123) := ⟨h10_⟩
     have n11_ : Qz (gb42 ≠ gb124) := ⟨h11_⟩
     have n12_ : Qz (gb124 ≠ gb42) := ⟨h12_⟩
     have n13_ : Qz (IsS101 w0 w22 g s0_0 t136) := ⟨h13_⟩
     have n14_ : Qz (Qau w w22 g none) := ⟨h14_⟩
     have n15_ : Qz (Below w0.heap.size w0 w22) := ⟨h15_⟩
     clear HO_40
     clear HO_41
     clear BK123
     clear BK42
     clear HI0
     clear HK
     clear HB
     clear h0_ h1_ h2_ h3_ h4_ h5_ h6_ h7_ h8_ h9_ h10_ h11_ h12_ h13_ h14_ h15_
     have HO129 := n0_
     have HO131 := n1_
     have BK123 := n2_
     have BK42 := n3_
     have BK124 := n4_
     have GW124 := n5_
     have GE124 := n6_
     have NB0_1034 := n7_
     have NB1034_0 := n8_
     have NB1014_1034 := n9_
     have NB1034_1014 := n10_
     have NB1015_1034 := n11_
     have NB1034_1015 := n12_
     have HI0 := n13_
     have HK := n14_
     have HB := n15_
     clear n0_ n1_ n2_ n3_ n4_ n5_ n6_ n7_ n8_ n9_ n10_ n11_ n12_ n13_ n14_ n15_
     have hHeld : w22.cell? ⟨gb42, 0, none⟩ = some (.slice Ao16 x40_1.length co16) ∧ w22.cell? ⟨gb42, 1, none⟩ = some (.slice Ao17 x41_1.length co17) := hS_
     obtain ⟨Ao23, co23, eo23⟩ := Kd.R_slice HO129.out
     (first | subst eo23 | (injection eo23 with f1_ f2_ f3_; have f4_ := f1_.symm; have f5_ := f3_.symm; clear f1_ f2_ f3_; subst f4_; subst f5_))
     obtain ⟨Ao25, co25, eo25⟩ := Kd.R_slice HO131.out
     (first | subst eo25 | (injection eo25 with f1_ f2_ f3_; have f4_ := f1_.symm; have f5_ := f3_.symm; clear f1_ f2_ f3_; subst f4_; subst f5_))
     refine norm_ (a' := ?_) ?_ ?_
     rotate_left
     ·simp only [putAll, Act.put, List.setIfInBounds_toArray, List.set_cons_zero, List.set_cons_succ]
      rfl
     refine one_ (i := 8) (N := none) #[Y, Y, Y, Y, Y, Y, Y, Y, Y, Z] rfl rfl (one_of HT_.out (by kernel_rfl)) (by decide) (fun K hK => ?_)
     have hs24 : w22.cell? ⟨gb124, 0, none⟩ = some (.slice none 0 0) := (Qh BK124.out 0).trans rfl
     have hfs24 := Qj BK124.out 0
     have hns24_0 := NB1014_1034.out
     have hns24_1 := NB1015_1034.out
     have hms24_0 := NB1034_1014.out
     have hms24_1 := NB1034_1015.out
     have hs26 : w22.cell? ⟨gb124, 1, none⟩ = some (.slice none 0 0) := (Qh BK124.out 1).trans rfl
     have hfs26 := Qj BK124.out 1
     have hns26_0 := NB1014_1034.out
     have hns26_1 := NB1015_1034.out
     have hms26_0 := NB1034_1014.out
     have hms26_1 := NB1034_1015.out
     refine skip_ (w1 := ?_) (by rfl) rfl ?_ ?_
     rotate_left
     ·go_simp
      rfl
     refine hK.out _ _ ⟨((Qaq (p := ⟨gb124, _, none⟩) NB1015_1034.out _).trans (((Qaq (p := ⟨gb124, _, none⟩) NB1015_1034.out _).trans (hHeld.1)))), ((Qaq (p := ⟨gb124, _, none⟩) NB1015_1034.out _).trans (((Qaq (p := ⟨gb124, _, none⟩) NB1015_1034.out _).trans (hHeld.2))))⟩ (fun hHeld => ?_)
     clear hK K
     refine zp 9 6 ?_
     refine done_ (done_of HT_.out (by kernel_rfl)) ?_
     have H := HX_.out
     clear HX_
     by_cases c14 : t151 = true
     ·subst c14
      have H1 : ((Zsl3Flush.f t125 t126).bind fun bt134 => (Zsl3Log.l0 k1 (wrap64 (x4_1 - 1)) s0_0 t154 bt134.1 bt134.2)) = some (r1, r2, r3) := by rw [if_pos rfl] at H; exact H
      clear H
      have H := H1
      clear H1
      replace H := Option.bind_eq_some_iff.mp H
      obtain ⟨⟨t134, t156⟩, A150, H⟩ := H
      replace H : (Zsl3Log.l0 k1 (wrap64 (x4_1 - 1)) s0_0 t154 t134 t156) = some (r1, r2, r3) := H
      have A15 := Qz.mk A150
      clear A150
      have H' := Qz.mk H
      clear H
      have hnb27 := NB1034_1014.out
      have hnc27 := NB1014_1034.out
      have hnb28 := NB1034_1015.out
      have hnc28 := NB1015_1034.out
      have hnb29 := NB1034_0.out
      have hnc29 := NB0_1034.out
      obtain ⟨z30_0, z30_1, j30_0, j30_1⟩ := Lv.blks2 BK124.out
      have hnb31 := NB1015_1014.out
      have hnc31 := NB1014_1015.out
      have hnb32 := NB1015_0.out
      have hnc32 := NB0_1015.out
      obtain ⟨z33_0, z33_1, j33_0, j33_1⟩ := Lv.blks2 BK42.out
      try go_wp2_with (first | ((with_reducible refine gate_callee (f := 66) rfl ?_); refine Qat (some 25) rfl rfl Try.func66 (by kernel_rfl) rfl #[.pointer (some ⟨g, 0, none⟩), .int .i64 3] rfl zm ?_; (with_reducible refine (Zsl1Chance.calls g s0_0 t136 3 true t154 w0 _ ?side1 ?side2 A13.out).mono ?_); (case side1 => exact yq8); (case side2 => exact yq4); rintro e w34 ⟨rfl, hi, hb, hk⟩; refine ⟨_, rfl, ?_⟩; have n0_ := Qz.mk (Qau.blk hk (g' := gb123) (o := .cells #[.slice none 0 0, .slice none 0 0] 27 (0, 0)) yq19 NB1014_0.out (by simp)); have n1_ := Qz.mk (Qau.blk hk (g' := gb42) (o := .cells #[.slice Ao23 t125.length co23, .slice Ao25 t126.length co25] 27 (0, 0)) yq10 NB1015_0.out (by simp)); have n2_ := Qz.mk (Kd.Qw (Kd.R_keep (IsS101.apart (show IsS101 w0 _ g s0_0 t136 from by first | exact (IsS101.far (p := ⟨gb42, 1, none⟩) (IsS101.far (p := ⟨gb42, 0, none⟩) (IsS101.far (p := ⟨gb124, 1, none⟩) (IsS101.far (p := ⟨gb124, 0, none⟩) HI0.out NB0_1034.out _) NB0_1034.out _) NB0_1015.out _) NB0_1015.out _) | (repeat (first | (with_reducible first | exact HI0.out | apply IsS101.alloc | apply IsS101.drewN | apply IsS101.drew | refine IsS101.far ?_ NB0_1014.out _ | refine IsS101.far ?_ NB0_1015.out _ | refine IsS101.far ?_ NB0_1034.out _ | apply IsS101.set_1) | exact HI0.out))) yq6 (by decide)) hk (fun _ h => h.2)) (fun _ h => h.1)); have n3_ := Qz.mk (Kd.Qw (Kd.R_keep (IsS101.apart (show IsS101 w0 _ g s0_0 t136 from by first | exact (IsS101.far (p := ⟨gb42, 1, none⟩) (IsS101.far (p := ⟨gb42, 0, none⟩) (IsS101.far (p := ⟨gb124, 1, none⟩) (IsS101.far (p := ⟨gb124, 0, none⟩) HI0.out NB0_1034.out _) NB0_1034.out _) NB0_1015.out _) NB0_1015.out _) | (repeat (first | (with_reducible first | exact HI0.out | apply IsS101.alloc | apply IsS101.drewN | apply IsS101.drew | refine IsS101.far ?_ NB0_1014.out _ | refine IsS101.far ?_ NB0_1015.out _ | refine IsS101.far ?_ NB0_1034.out _ | apply IsS101.set_1) | exact HI0.out))) yq7 (by decide)) hk (fun _ h => h.2)) (fun _ h => h.1)); have n4_ := Qz.mk (Qau.blk hk (g' := gb124) (o := .cells #[.slice Ao23 t125.length co23, .slice Ao25 t126.length co25] 27 (0, 0)) yq13 NB1034_0.out (by simp)); have n5_ := Qz.mk (Qau.trans yq2 hk (.inl rfl)); have n6_ := Qz.mk (hb); have n7_ := Qz.mk (hi); clear BK123; clear BK42; clear HO129; clear HO131; clear BK124; clear HK; clear HB; clear HI0; have BK123 := n0_; have BK42 := n1_; have HO129 := n2_; have HO131 := n3_; have BK124 := n4_; have HK := n5_; have HB := n6_; have HI0 := n7_; clear n0_ n1_ n2_ n3_ n4_ n5_ n6_ n7_; (try clear hb); (try clear hb2); (try clear hk); (try clear hi); obtain ⟨z35_0, z35_1, j35_0, j35_1⟩ := Lv.blks2 BK42.out) | ((with_reducible refine gate_callee (f := 71) rfl ?_); refine Qat (some 27) rfl rfl Try.func71 (by kernel_rfl) rfl #[.agg #[.slice Ao23 t125.length co23, .slice Ao25 t126.length co25]] rfl zm ?_; (with_reducible refine (Zsl3Flush.calls _ _ t125 _ _ t126 t134 t156 _ ?side1 ?side2 ?side3 ?side4 A15.out).mono ?_); (case side1 => exact zc (Kd.Qaj HO129.out).2.2); (case side2 => exact (Kd.Qaj HO129.out).2.1); (case side3 => exact zc (Kd.Qaj HO131.out).2.2); (case side4 => exact (Kd.Qaj HO131.out).2.1); rintro e w36 ⟨v165, v166, rfl, ho0, ho1, hb⟩; refine ⟨_, rfl, ?_⟩; have n0_ := Qz.mk (Kd.Qw (Kd.Qam (Kd.Qam (Kd.R_old (zr HO129) hb) (Kd.Qah ho0)) (Kd.Qah ho1)) (fun _ h_ => h_.1)); have n1_ := Qz.mk (Kd.Qw (Kd.Qam (Kd.Qam (Kd.R_old (zr HO131) hb) (Kd.Qah ho0)) (Kd.Qah ho1)) (fun _ h_ => h_.1)); have n2_ := Qz.mk (Kd.Qan (Kd.Qal (Kd.Qal ho0 (Kd.R_lt (zr HO129))) (Kd.R_lt (zr HO131))) (keep_size (w := w) (g := g) (row := none) yq2)); have n3_ := Qz.mk (Kd.Qan (Kd.Qal (Kd.Qal ho1 (Kd.R_lt (zr HO129))) (Kd.R_lt (zr HO131))) (keep_size (w := w) (g := g) (row := none) yq2)); have n4_ := Qz.mk (Qi (g := gb123) (o := .cells #[.slice none 0 0, .slice none 0 0] 27 (0, 0)) zk hb); have n5_ := Qz.mk (Qi (g := gb42) (o := .cells #[.slice Ao23 t125.length co23, .slice Ao25 t126.length co25] 27 (0, 0)) zk hb); have n6_ := Qz.mk (IsS101.below yq5 hb); have n7_ := Qz.mk (Qi (g := gb124) (o := .cells #[.slice Ao23 t125.length co23, .slice Ao25 t126.length co25] 27 (0, 0)) zk hb); have n8_ := Qz.mk (Qau.trans yq2 (Qau.of_below hb g none) (.inl rfl)); have n9_ := Qz.mk (Qq yq4 hb); clear HO129; clear HO131; clear BK123; clear BK42; clear HI0; clear BK124; clear HK; clear HB; have HO129 := n0_; have HO131 := n1_; have HO161 := n2_; have HO162 := n3_; have BK123 := n4_; have BK42 := n5_; have HI0 := n6_; have BK124 := n7_; have HK := n8_; have HB := n9_; clear n0_ n1_ n2_ n3_ n4_ n5_ n6_ n7_ n8_ n9_; (try clear hb); (try clear hb2); (try clear hk); (try clear hi); (try clear ho0); (try clear ho1); obtain ⟨Ao37, co37, eo37⟩ := Kd.R_slice HO161.out; subst eo37; obtain ⟨z38_0, z38_1, j38_0, j38_1⟩ := Lv.blks2 BK42.out; obtain ⟨Ao39, co39, eo39⟩ := Kd.R_slice HO162.out; subst eo39))
      go_roundg k1
      case measure => have := HK1.out; omega
      case rel => exact ⟨(wrap64 (x4_1 - 1)), (t154), (t134), (t156), (.slice Ao37 t134.length co37), (.slice Ao39 t156.length co39), zs, H', ⟨by have := HK1.out; omega⟩, ⟨by refine zR ?_; exact Kd.Qw (Kd.Qx (p := ⟨gb42, 1, none⟩) (Kd.Qx (p := ⟨gb42, 0, none⟩) (Kd.Qai HO161.out BK42.out (by decide)) (fun _ hk => hk.2) (.slice Ao37 t134.length co37)) (fun _ hk => hk.2) (.slice Ao39 t156.length co39)) (fun _ hk => hk.1.1.1)⟩, ⟨by refine zR ?_; exact Kd.Qw (Kd.Qx (p := ⟨gb42, 1, none⟩) (Kd.Qx (p := ⟨gb42, 0, none⟩) (Kd.Qai HO162.out BK42.out (by decide)) (fun _ hk => hk.2) (.slice Ao37 t134.length co37)) (fun _ hk => hk.2) (.slice Ao39 t156.length co39)) (fun _ hk => hk.1.1.1)⟩, ⟨by refine zQ ?_; refine blk_far ?_ NB1014_1015.out _; refine zQ ?_; refine blk_far ?_ NB1014_1015.out _; refine zQ ?_; exact BK123.out⟩, ⟨by refine zQ ?_; refine Qk (cs := #[.slice Ao37 t134.length co37, .slice Ao25 t126.length co25]) ?_ 1 _ rfl; refine zQ ?_; refine Qk (cs := #[.slice Ao23 t125.length co23, .slice Ao25 t126.length co25]) ?_ 0 _ rfl; refine zQ ?_; exact BK42.out⟩, ⟨by first | exact (IsS101.far (p := ⟨gb42, 1, none⟩) (IsS101.far (p := ⟨gb42, 0, none⟩) HI0.out NB0_1015.out _) NB0_1015.out _) | (repeat (first | (with_reducible first | exact HI0.out | apply IsS101.alloc | apply IsS101.drewN | apply IsS101.drew | refine IsS101.far ?_ NB0_1014.out _ | refine IsS101.far ?_ NB0_1015.out _ | refine IsS101.far ?_ NB0_1034.out _ | apply IsS101.set_1) | exact HI0.out))⟩, ⟨by repeat (first | (with_reducible first | exact HK.out | apply Qau.set_ | apply keep_drewN | apply keep_drew | apply keep_alloc | refine keep_far ?_ GW123.out _ | refine keep_far ?_ GW42.out _ | refine keep_far ?_ GW124.out _) | exact HK.out)⟩, ⟨by repeat (first | (with_reducible first | exact HB.out | apply Qc | apply Qa | apply Qb | refine Qd ?_ (IsS101.ge HI0.out) | refine Qd ?_ GE123.out | refine Qd ?_ GE42.out | refine Qd ?_ GE124.out) | exact HB.out)⟩⟩
     replace c14 := Bool.eq_false_iff.mpr c14
     subst c14
     have H1 : (Zsl3Log.l0 k1 (wrap64 (x4_1 - 1)) s0_0 t154 t125 t126) = some (r1, r2, r3) := by rw [if_neg (show ¬ (false = true) by decide)] at H; exact H
     clear H
     have H := H1
     clear H1
     have H' := Qz.mk H
     clear H
     have hnb51 := NB1034_1014.out
     have hnc51 := NB1014_1034.out
     have hnb52 := NB1034_1015.out
     have hnc52 := NB1015_1034.out
     have hnb53 := NB1034_0.out
     have hnc53 := NB0_1034.out
     obtain ⟨z54_0, z54_1, j54_0, j54_1⟩ := Lv.blks2 BK124.out
     have hnb55 := NB1015_1014.out
     have hnc55 := NB1014_1015.out
     have hnb56 := NB1015_0.out
     have hnc56 := NB0_1015.out
     obtain ⟨z57_0, z57_1, j57_0, j57_1⟩ := Lv.blks2 BK42.out
     try go_wp2_with (first | ((with_reducible refine gate_callee (f := 66) rfl ?_); refine Qat (some 25) rfl rfl Try.func66 (by kernel_rfl) rfl #[.pointer (some ⟨g, 0, none⟩), .int .i64 3] rfl zm ?_; (with_reducible refine (Zsl1Chance.calls g s0_0 t136 3 false t154 w0 _ ?side1 ?side2 A13.out).mono ?_); (case side1 => exact yq8); (case side2 => exact yq4); rintro e w58 ⟨rfl, hi, hb, hk⟩; refine ⟨_, rfl, ?_⟩; have n0_ := Qz.mk (Qau.blk hk (g' := gb123) (o := .cells #[.slice none 0 0, .slice none 0 0] 27 (0, 0)) yq19 NB1014_0.out (by simp)); have n1_ := Qz.mk (Qau.blk hk (g' := gb42) (o := .cells #[.slice Ao23 t125.length co23, .slice Ao25 t126.length co25] 27 (0, 0)) yq10 NB1015_0.out (by simp)); have n2_ := Qz.mk (Kd.Qw (Kd.R_keep (IsS101.apart (show IsS101 w0 _ g s0_0 t136 from by first | exact (IsS101.far (p := ⟨gb42, 1, none⟩) (IsS101.far (p := ⟨gb42, 0, none⟩) (IsS101.far (p := ⟨gb124, 1, none⟩) (IsS101.far (p := ⟨gb124, 0, none⟩) HI0.out NB0_1034.out _) NB0_1034.out _) NB0_1015.out _) NB0_1015.out _) | (repeat (first | (with_reducible first | exact HI0.out | apply IsS101.alloc | apply IsS101.drewN | apply IsS101.drew | refine IsS101.far ?_ NB0_1014.out _ | refine IsS101.far ?_ NB0_1015.out _ | refine IsS101.far ?_ NB0_1034.out _ | apply IsS101.set_1) | exact HI0.out))) yq6 (by decide)) hk (fun _ h => h.2)) (fun _ h => h.1)); have n3_ := Qz.mk (Kd.Qw (Kd.R_keep (IsS101.apart (show IsS101 w0 _ g s0_0 t136 from by first | exact (IsS101.far (p := ⟨gb42, 1, none⟩) (IsS101.far (p := ⟨gb42, 0, none⟩) (IsS101.far (p := ⟨gb124, 1, none⟩) (IsS101.far (p := ⟨gb124, 0, none⟩) HI0.out NB0_1034.out _) NB0_1034.out _) NB0_1015.out _) NB0_1015.out _) | (repeat (first | (with_reducible first | exact HI0.out | apply IsS101.alloc | apply IsS101.drewN | apply IsS101.drew | refine IsS101.far ?_ NB0_1014.out _ | refine IsS101.far ?_ NB0_1015.out _ | refine IsS101.far ?_ NB0_1034.out _ | apply IsS101.set_1) | exact HI0.out))) yq7 (by decide)) hk (fun _ h => h.2)) (fun _ h => h.1)); have n4_ := Qz.mk (Qau.blk hk (g' := gb124) (o := .cells #[.slice Ao23 t125.length co23, .slice Ao25 t126.length co25] 27 (0, 0)) yq13 NB1034_0.out (by simp)); have n5_ := Qz.mk (Qau.trans yq2 hk (.inl rfl)); have n6_ := Qz.mk (hb); have n7_ := Qz.mk (hi); clear BK123; clear BK42; clear HO129; clear HO131; clear BK124; clear HK; clear HB; clear HI0; have BK123 := n0_; have BK42 := n1_; have HO129 := n2_; have HO131 := n3_; have BK124 := n4_; have HK := n5_; have HB := n6_; have HI0 := n7_; clear n0_ n1_ n2_ n3_ n4_ n5_ n6_ n7_; (try clear hb); (try clear hb2); (try clear hk); (try clear hi)))
     go_roundg k1
     case measure => have := HK1.out; omega
     case rel => exact ⟨(wrap64 (x4_1 - 1)), (t154), (t125), (t126), (.slice Ao23 t125.length co23), (.slice Ao25 t126.length co25), zs, H', ⟨by have := HK1.out; omega⟩, ⟨zr HO129⟩, ⟨zr HO131⟩, ⟨zq BK123⟩, ⟨zq BK42⟩, ⟨by repeat (first | (with_reducible first | exact HI0.out | apply IsS101.alloc | apply IsS101.drewN | apply IsS101.drew | refine IsS101.far ?_ NB0_1014.out _ | refine IsS101.far ?_ NB0_1015.out _ | refine IsS101.far ?_ NB0_1034.out _ | apply IsS101.set_1) | exact HI0.out)⟩, ⟨by repeat (first | (with_reducible first | exact HK.out | apply Qau.set_ | apply keep_drewN | apply keep_drew | apply keep_alloc | refine keep_far ?_ GW123.out _ | refine keep_far ?_ GW42.out _ | refine keep_far ?_ GW124.out _) | exact HK.out)⟩, ⟨by repeat (first | (with_reducible first | exact HB.out | apply Qc | apply Qa | apply Qb | refine Qd ?_ (IsS101.ge HI0.out) | refine Qd ?_ GE123.out | refine Qd ?_ GE42.out | refine Qd ?_ GE124.out) | exact HB.out)⟩⟩
    rw [if_neg c12] at H
    exact absurd H (by simp)
   rw [if_neg c9] at H
   have c9b0 : decide (0 < x4_1) = false := decide_eq_false c9
   clear c9
   replace H := Option.bind_eq_some_iff.mp H
   obtain ⟨⟨t132, t137⟩, A590, H⟩ := H
   replace H : (if t132 = 0 then ((some (([1, 2] : List Int) : List Int)).bind fun y135 => (if x41_1.length + y135.length < 140737488355328 then (some (x40_1, (x41_1 ++ y135), t137)) else (none))) else (if t132 = 1 then (if (x40_1.length : Int) > 0 then ((Zsl1Next.f s0_0 t137 (x40_1.length : Int)).bind fun bt127 => ((Zsl1Next.f s0_0 bt127.2 256).bind fun bt133 => (if 0 ≤ bt127.1 then (if bt127.1 < (x40_1.length : Int) then (some ((x40_1.set (bt127.1 : Int).toNat ((bt133.1) % 256)), x41_1, bt133.2)) else (none)) else (none)))) else (some (x40_1, x41_1, t137))) else (if t132 = 2 then (some ((List.replicate 4001 0), x41_1, t137)) else (some (x40_1, x41_1, t137))))) = some (r1, r2, r3) := H
   have A59 := Qz.mk A590
   clear A590
   by_cases c60 : t132 = 0
   ·rw [if_pos c60] at H
    have c60b0 : (t132 == 0) = true := beq_iff_eq.mpr c60
    have c60b1 : (t132 != 0) = false := bne_eq_false_iff_eq.mpr c60
    clear c60
    obtain ⟨y135, hy135⟩ : ∃ y_ : List Int, y_ = (([1, 2] : List Int)) := ⟨_, rfl⟩
    replace H : (if x41_1.length + y135.length < 140737488355328 then (some (x40_1, (x41_1 ++ y135), t137)) else (none)) = some (r1, r2, r3) := by first | (rw [hy135]; with_reducible exact H) | (have H2_ := (Option.bind_some _ _).symm.trans H; rw [hy135]; with_reducible exact H2_) | (have H2_ := (Option.bind_some _ _).symm.trans H; with_reducible exact H2_) | with_reducible exact H | (rw [hy135]; exact H) | exact H
    have Ny135 := Qz.mk hy135
    clear hy135
    by_cases c61 : x41_1.length + y135.length < 140737488355328
    ·rw [if_pos c61] at H
     have LMc61 := Qz.mk c61
     clear c61
     obtain ⟨y139, hy139⟩ : ∃ y_ : List Int, y_ = (x41_1 ++ y135) := ⟨_, rfl⟩
     replace H : (some (x40_1, y139, t137)) = some (r1, r2, r3) := by first | (rw [hy139]; with_reducible exact H) | (have H2_ := (Option.bind_some _ _).symm.trans H; rw [hy139]; with_reducible exact H2_) | (have H2_ := (Option.bind_some _ _).symm.trans H; with_reducible exact H2_) | with_reducible exact H | (rw [hy139]; exact H) | exact H
     have Ny139 := Qz.mk hy139
     clear hy139
     simp only [Option.some.injEq, Prod.mk.injEq] at H
     obtain ⟨rfl, rfl, rfl⟩ := H
     go_wp2_with (first | ((with_reducible refine gate_callee (f := 64) rfl ?_); refine Qat (some 29) rfl rfl Try.func64 (by kernel_rfl) rfl #[.pointer (some ⟨g, 0, none⟩), .int .i64 20] rfl zm ?_; (with_reducible refine (Zsl1Next.calls g s0_0 x128_1 20 t132 t137 w0 _ ?side1 ?side2 A59.out).mono ?_); (case side1 => exact yq3); (case side2 => exact yq1); rintro e w62 ⟨rfl, hi, hb, hk⟩; refine ⟨_, rfl, ?_⟩; have n0_ := Qz.mk (Kd.Qw (Kd.R_keep (IsS101.apart (show IsS101 w0 _ g s0_0 x128_1 from by repeat (first | (with_reducible first | exact HI0.out | apply IsS101.alloc | apply IsS101.drewN | apply IsS101.drew | refine IsS101.far ?_ NB0_1014.out _ | refine IsS101.far ?_ NB0_1015.out _ | apply IsS101.set_1) | exact HI0.out)) (zr HO_40) (by decide)) hk (fun _ h => h.2)) (fun _ h => h.1)); have n1_ := Qz.mk (Kd.Qw (Kd.R_keep (IsS101.apart (show IsS101 w0 _ g s0_0 x128_1 from by repeat (first | (with_reducible first | exact HI0.out | apply IsS101.alloc | apply IsS101.drewN | apply IsS101.drew | refine IsS101.far ?_ NB0_1014.out _ | refine IsS101.far ?_ NB0_1015.out _ | apply IsS101.set_1) | exact HI0.out)) (zr HO_41) (by decide)) hk (fun _ h => h.2)) (fun _ h => h.1)); have n2_ := Qz.mk (Qau.blk hk (g' := gb123) (o := .cells #[.slice none 0 0, .slice none 0 0] 27 (0, 0)) zk NB1014_0.out (by simp)); have n3_ := Qz.mk (Qau.blk hk (g' := gb42) (o := .cells #[u1016000, u1016001] 27 (0, 0)) zk NB1015_0.out (by simp)); have n4_ := Qz.mk (Qau.trans yq0 hk (.inl rfl)); have n5_ := Qz.mk (hb); have n6_ := Qz.mk (hi); clear HO_40; clear HO_41; clear BK123; clear BK42; clear HK; clear HB; clear HI0; have HO_40 := n0_; have HO_41 := n1_; have BK123 := n2_; have BK42 := n3_; have HK := n4_; have HB := n5_; have HI0 := n6_; clear n0_ n1_ n2_ n3_ n4_ n5_ n6_; (try clear hb); (try clear hb2); (try clear hk); (try clear hi); have hnb63 := NB1015_1014.out; have hnc63 := NB1014_1015.out; have hnb64 := NB1015_0.out; have hnc64 := NB0_1015.out; obtain ⟨z65_0, z65_1, j65_0, j65_1⟩ := Lv.blks2 BK42.out) | ((with_reducible refine gate_dst (N := 34) rfl ?_); refine Kd.R_lit (Kd.int .u8) _ 5 ?hg (N := 34) ?hd (xs := ([1, 2] : List Int)) (inner := [.int .u8 1, .int .u8 2]) (ok := fun _ => True) (okp := fun _ => True) ?hr ?hp (fun _ hk => hk) trivial (Below.refl _ _) (Nat.le_refl _) (by simp) ?_; (case hd => rfl); (case hg => rfl); (case hr => exact yq20); (case hp => exact (Reps.one (show Kd.M (Kd.int .u8) _ _ _ 1 [.int .u8 1] from rfl) (Reps.one (show Kd.M (Kd.int .u8) _ _ _ 2 [.int .u8 2] from rfl) (Reps.none _ _)))); intro v167 w66 ho67 hb hg_ hnew_; clear hg_ hnew_; (first | rw [← Ny135.out] at ho67 | (simp only [Int.reduceToNat] at ho67; rw [← Ny135.out] at ho67)); have n0_ := Qz.mk (Kd.R_elder' (zr HO_40) (Kd.Qah ho67) hb); have n1_ := Qz.mk (Kd.R_elder' (zr HO_41) (Kd.Qah ho67) hb); have n2_ := Qz.mk (Kd.Qan (Kd.Qal (Kd.Qal ho67 (Kd.R_lt (zr HO_40))) (Kd.R_lt (zr HO_41))) (keep_size (w := w) (g := g) (row := none) yq0)); have n3_ := Qz.mk (Qi (g := gb123) (o := .cells #[.slice none 0 0, .slice none 0 0] 27 (0, 0)) zk hb); have n4_ := Qz.mk (Qi (g := gb42) (o := .cells #[u1016000, u1016001] 27 (0, 0)) zk hb); have n5_ := Qz.mk (IsS101.below yq3 hb); have n6_ := Qz.mk (Qau.trans yq0 (Qau.of_below hb g none) (.inl rfl)); have n7_ := Qz.mk (Qq yq1 hb); clear HO_40; clear HO_41; clear BK123; clear BK42; clear HI0; clear HK; clear HB; have HO_40 := n0_; have HO_41 := n1_; have HO157 := n2_; have BK123 := n3_; have BK42 := n4_; have HI0 := n5_; have HK := n6_; have HB := n7_; clear n0_ n1_ n2_ n3_ n4_ n5_ n6_ n7_; clear hb ho67; obtain ⟨Ao69, co69, eo69⟩ := Kd.R_slice HO157.out; subst eo69) | ((with_reducible refine gate_builtin (b := .append) (xs := #[.tmp 33, .tmp 34]) rfl ?_); at_builtin; refine Kd.R_append_rows (Kd.int .u8) w.heap.size rfl (.tmp 33) (.tmp 34) 22 5 (.int .u8 0) 1 rfl Try.underlying22 info5 rfl (by decide) (by omega) u1016001 x41_1 y135 _ _ _ (fun k_ => some k_ ≠ (u1016000 : Value).ownBlock ∧ some k_ ≠ (.slice Ao69 y135.length co69 : Value).ownBlock) (fun _ => False) rfl rfl ?aO ?aR (fun _ _ h => h) (fun _ h => h.elim) ?aF (Below.refl _ _) ?aS ?aL ?_; (case aR => repeat (first | exact (Kd.Qaj HO157.out).2.2 | (with_reducible first | refine Kd.Qaa ?_ _ | refine Kd.Qz ?_ _ | refine Kd.Qab ?_))); (case aF => exact (fun k_ hk => ⟨Kd.fresh' (Kd.R_lt (zr HO_40)) k_ hk, Kd.fresh' (Kd.R_lt (zr HO157)) k_ hk⟩)); (case aO => exact (zr HO_41)); (case aS => exact (keep_size (w := w) (g := g) (row := none) yq0)); (case aL => have := LMc61.out; omega); intro v168 w68 ho hb hg hat; rw [← Ny139.out] at ho; have n0_ := Qz.mk (Kd.R_after (ok := (fun k_ => some k_ ≠ (.slice Ao69 y135.length co69 : Value).ownBlock)) (by refine zR ?_; exact Kd.Qw HO_40.out (fun _ hk => ⟨hk.2, hk.1⟩)) hg hat); have n1_ := Qz.mk (blk_grown (g := gb123) (o := .cells #[.slice none 0 0, .slice none 0 0] 27 (0, 0)) zk hg (Kd.R_ne HO_41.out BK123.out (by decide))); have n2_ := Qz.mk (blk_grown (g := gb42) (o := .cells #[u1016000, u1016001] 27 (0, 0)) zk hg (Kd.R_ne HO_41.out BK42.out (by decide))); have n3_ := Qz.mk (IsS101.grown yq3 hg (IsS101.own_ne HI0.out HO_41.out (by decide))); have n4_ := Qz.mk (Kd.R_after (ok := (fun k_ => some k_ ≠ (u1016000 : Value).ownBlock)) (by refine zR ?_; exact Kd.Qw HO157.out (fun _ hk => ⟨hk.1.2, hk.2⟩)) hg hat); have n5_ := Qz.mk (below_weaken yq1 HL.out hb); have n6_ := Qz.mk (Qau.trans yq0 (Qau.of_grown hg g) (Kd.R_base2 HO_41.out)); have n7_ := Qz.mk (ho); clear HO_40; clear BK123; clear BK42; clear HI0; clear HO157; clear HB; clear HK; clear HO_41; have HO_40 := n0_; have BK123 := n1_; have BK42 := n2_; have HI0 := n3_; have HO157 := n4_; have HB := n5_; have HK := n6_; have HO163 := n7_; clear n0_ n1_ n2_ n3_ n4_ n5_ n6_ n7_; clear ho hb hg hat; obtain ⟨Ao70, co70, eo70⟩ := Kd.R_slice HO163.out; subst eo70; obtain ⟨z71_0, z71_1, j71_0, j71_1⟩ := Lv.blks2 BK42.out; obtain ⟨Ao72, co72, eo72⟩ := Kd.R_slice HO_40.out; subst eo72; have hnb73 := NB1014_0.out; have hnc73 := NB0_1014.out; obtain ⟨z74_0, z74_1, j74_0, j74_1⟩ := Lv.blks2 BK123.out))
     refine bodyPost_ret (results_cell_row rfl _ _ gb123 27 #[.slice Ao72 x40_1.length co72, .slice Ao70 y139.length co70] (0, 0) _ rfl (by refine zQ ?_; refine Qk (cs := #[.slice Ao72 x40_1.length co72, .slice none 0 0]) ?_ 1 _ rfl; refine zQ ?_; refine Qk (cs := #[.slice none 0 0, .slice none 0 0]) ?_ 0 _ rfl; refine zQ ?_; refine blk_far ?_ NB1014_1015.out _; refine zQ ?_; exact BK123.out) Try.underlying27 rfl (by kernel_rfl)) rfl ?_
     exact ⟨_, _, ze, by refine zR ?_; exact Kd.Qw (Kd.Qx (p := ⟨gb123, 1, none⟩) (Kd.Qx (p := ⟨gb123, 0, none⟩) (Kd.Qx (p := ⟨gb42, 1, none⟩) (Kd.Qai (Kd.Qai HO_40.out BK42.out (by decide)) BK123.out (by decide)) (fun _ hk => hk.1.2) (.slice Ao70 y139.length co70)) (fun _ hk => hk.2) (.slice Ao72 x40_1.length co72)) (fun _ hk => hk.2) (.slice Ao70 y139.length co70)) (fun _ hk => hk.1.1.2), by refine zR ?_; exact Kd.Qw (Kd.Qx (p := ⟨gb123, 1, none⟩) (Kd.Qx (p := ⟨gb123, 0, none⟩) (Kd.Qx (p := ⟨gb42, 1, none⟩) (Kd.Qai (Kd.Qai HO163.out BK42.out (by decide)) BK123.out (by decide)) (fun _ hk => hk.1.2) (.slice Ao70 y139.length co70)) (fun _ hk => hk.2) (.slice Ao72 x40_1.length co72)) (fun _ hk => hk.2) (.slice Ao70 y139.length co70)) (fun _ hk => hk.1.1.1), by first | exact (IsS101.far (p := ⟨gb123, 1, none⟩) (IsS101.far (p := ⟨gb123, 0, none⟩) (IsS101.far (p := ⟨gb42, 1, none⟩) HI0.out NB0_1015.out _) NB0_1014.out _) NB0_1014.out _) | (repeat (first | (with_reducible first | exact HI0.out | apply IsS101.alloc | apply IsS101.drewN | apply IsS101.drew | refine IsS101.far ?_ NB0_1014.out _ | refine IsS101.far ?_ NB0_1015.out _ | apply IsS101.set_1) | exact HI0.out)), by repeat (first | (with_reducible first | exact HB.out | apply Qc | apply Qa | apply Qb | refine Qd ?_ (IsS101.ge HI0.out) | refine Qd ?_ GE123.out | refine Qd ?_ GE42.out) | exact HB.out), by repeat (first | (with_reducible first | exact HK.out | apply Qau.set_ | apply keep_drewN | apply keep_drew | apply keep_alloc | refine keep_far ?_ GW123.out _ | refine keep_far ?_ GW42.out _) | exact HK.out)⟩
    rw [if_neg c61] at H
    exact absurd H (by simp)
   rw [if_neg c60] at H
   have c60b0 : (t132 == 0) = false := beq_eq_false_iff_ne.mpr c60
   have c60b1 : (t132 != 0) = true := bne_iff_ne.mpr c60
   by_cases c75 : t132 = 1
   ·rw [if_pos c75] at H
    have c75b0 : (t132 == 1) = true := beq_iff_eq.mpr c75
    have c75b1 : (t132 != 1) = false := bne_eq_false_iff_eq.mpr c75
    clear c75
    by_cases c76 : (x40_1.length : Int) > 0
    ·rw [if_pos c76] at H
     have c76b0 : decide (0 < (x40_1.length : Int)) = true := decide_eq_true c76
     have c76b1 : decide (0 < x40_1.length) = true := decide_eq_true (by omega)
     clear c76
     replace H := Option.bind_eq_some_iff.mp H
     obtain ⟨⟨t127, t158⟩, A770, H⟩ := H
     replace H : ((Zsl1Next.f s0_0 t158 256).bind fun bt133 => (if 0 ≤ t127 then (if t127 < (x40_1.length : Int) then (some ((x40_1.set (t127 : Int).toNat ((bt133.1) % 256)), x41_1, bt133.2)) else (none)) else (none))) = some (r1, r2, r3) := H
     have A77 := Qz.mk A770
     clear A770
     replace H := Option.bind_eq_some_iff.mp H
     obtain ⟨⟨t133, t159⟩, A780, H⟩ := H
     replace H : (if 0 ≤ t127 then (if t127 < (x40_1.length : Int) then (some ((x40_1.set (t127 : Int).toNat ((t133) % 256)), x41_1, t159)) else (none)) else (none)) = some (r1, r2, r3) := H
     have A78 := Qz.mk A780
     clear A780
     by_cases c79 : 0 ≤ t127
     ·rw [if_pos c79] at H
      have c79b0 : decide (0 ≤ t127) = true := decide_eq_true c79
      clear c79
      by_cases c80 : t127 < (x40_1.length : Int)
      ·rw [if_pos c80] at H
       have c80b0 : decide (t127 < (x40_1.length : Int)) = true := decide_eq_true c80
       clear c80
       obtain ⟨y153, hy153⟩ : ∃ y_ : List Int, y_ = (x40_1.set (t127 : Int).toNat ((t133) % 256)) := ⟨_, rfl⟩
       replace H : (some (y153, x41_1, t159)) = some (r1, r2, r3) := by first | (rw [hy153]; with_reducible exact H) | (have H2_ := (Option.bind_some _ _).symm.trans H; rw [hy153]; with_reducible exact H2_) | (have H2_ := (Option.bind_some _ _).symm.trans H; with_reducible exact H2_) | with_reducible exact H | (rw [hy153]; exact H) | exact H
       have Ny153 := Qz.mk hy153
       clear hy153
       simp only [Option.some.injEq, Prod.mk.injEq] at H
       obtain ⟨rfl, rfl, rfl⟩ := H
       try go_wp2_with (first | ((with_reducible refine gate_callee (f := 64) rfl ?_); refine Qat (some 29) rfl rfl Try.func64 (by kernel_rfl) rfl #[.pointer (some ⟨g, 0, none⟩), .int .i64 20] rfl zm ?_; (with_reducible refine (Zsl1Next.calls g s0_0 x128_1 20 t132 t137 w0 _ ?side1 ?side2 A59.out).mono ?_); (case side1 => exact yq3); (case side2 => exact yq1); rintro e w82 ⟨rfl, hi, hb, hk⟩; refine ⟨_, rfl, ?_⟩; have n0_ := Qz.mk (Kd.Qw (Kd.R_keep (IsS101.apart (show IsS101 w0 _ g s0_0 x128_1 from by repeat (first | (with_reducible first | exact HI0.out | apply IsS101.alloc | apply IsS101.drewN | apply IsS101.drew | refine IsS101.far ?_ NB0_1014.out _ | refine IsS101.far ?_ NB0_1015.out _ | apply IsS101.set_1) | exact HI0.out)) (zr HO_40) (by decide)) hk (fun _ h => h.2)) (fun _ h => h.1)); have n1_ := Qz.mk (Kd.Qw (Kd.R_keep (IsS101.apart (show IsS101 w0 _ g s0_0 x128_1 from by repeat (first | (with_reducible first | exact HI0.out | apply IsS101.alloc | apply IsS101.drewN | apply IsS101.drew | refine IsS101.far ?_ NB0_1014.out _ | refine IsS101.far ?_ NB0_1015.out _ | apply IsS101.set_1) | exact HI0.out)) (zr HO_41) (by decide)) hk (fun _ h => h.2)) (fun _ h => h.1)); have n2_ := Qz.mk (Qau.blk hk (g' := gb123) (o := .cells #[.slice none 0 0, .slice none 0 0] 27 (0, 0)) zk NB1014_0.out (by simp)); have n3_ := Qz.mk (Qau.blk hk (g' := gb42) (o := .cells #[u1016000, u1016001] 27 (0, 0)) zk NB1015_0.out (by simp)); have n4_ := Qz.mk (Qau.trans yq0 hk (.inl rfl)); have n5_ := Qz.mk (hb); have n6_ := Qz.mk (hi); clear HO_40; clear HO_41; clear BK123; clear BK42; clear HK; clear HB; clear HI0; have HO_40 := n0_; have HO_41 := n1_; have BK123 := n2_; have BK42 := n3_; have HK := n4_; have HB := n5_; have HI0 := n6_; clear n0_ n1_ n2_ n3_ n4_ n5_ n6_; (try clear hb); (try clear hb2); (try clear hk); (try clear hi); have hnb83 := NB1015_1014.out; have hnc83 := NB1014_1015.out; have hnb84 := NB1015_0.out; have hnc84 := NB0_1015.out; obtain ⟨z85_0, z85_1, j85_0, j85_1⟩ := Lv.blks2 BK42.out; obtain ⟨Ao86, co86, eo86⟩ := Kd.R_slice HO_40.out; subst eo86))
       have n0_ := Qz.mk (Kd.Qo HO_40.out)
       have n1_ := Qz.mk (Kd.Qo HO_41.out)
       have n2_ := Qz.mk (Qg BK123.out)
       have n3_ := Qz.mk (Qg BK42.out)
       have n4_ := Qz.mk (IsS101.drew HI0.out)
       have n5_ := Qz.mk (keep_drew HK.out)
       have n6_ := Qz.mk (Qb HB.out)
       clear HO_40
       clear HO_41
       clear BK123
       clear BK42
       clear HI0
       clear HK
       clear HB
       have HO_40 := n0_
       have HO_41 := n1_
       have BK123 := n2_
       have BK42 := n3_
       have HI0 := n4_
       have HK := n5_
       have HB := n6_
       clear n0_ n1_ n2_ n3_ n4_ n5_ n6_
       refine start_ (n := 12) (S := fun w' => w'.cell? ⟨gb42, 0, none⟩ = some (.slice Ao86 x40_1.length co86) ∧ w'.cell? ⟨gb42, 1, none⟩ = some (u1016001)) (ds := [11]) #[Z, Z, Z, Z, Z, Z, Z, Z, Z, Z, Z, Z] (by kernel_rfl) rfl rfl ⟨(Qh BK42.out 0).trans rfl, (Qh BK42.out 1).trans rfl⟩ (fun hHeld => ?_); refine with_tabW Zsl3Log.tab15 Zsl3Log.bits15 (fun HT_ HW_ => ?_)
       generalize w82.drew = w87 at HO_40 HO_41 BK123 BK42 HI0 HK HB hHeld ⊢
       refine zp 0 43 ?_; refine zp 2 45 ?_; refine zp 3 46 ?_; refine zp 7 50 ?_; refine zt 1 44 ?_; refine zt 4 47 ?_; refine zp 5 48 ?_
       refine one_ (i := 6) (N := some 49) #[Y, Y, Y, Y, Y, Y, Y, Y, Z, Z, Z, Z] rfl rfl (one_of HT_.out (by kernel_rfl)) (by decide) (fun K hK => ?_)
       refine goes_ Try.func64 (by kernel_rfl) rfl #[.pointer (some ⟨g, 0, none⟩), .int .i64 (x40_1.length : Int)] (by rfl) rfl rfl zm ?_
       with_reducible refine (Zsl1Next.calls g s0_0 t137 (x40_1.length : Int) t127 t158 w0 _ ?side1 ?side2 A77.out).mono ?_
       (case side1 => exact yq3)
       (case side2 => exact yq1)
       rintro e w88 ⟨rfl, hi, hb, hk⟩
       refine ⟨_, rfl, ?_⟩
       have n0_ := Qz.mk (Kd.Qw (Kd.R_keep (IsS101.apart (show IsS101 w0 _ g s0_0 t137 from by repeat (first | (with_reducible first | exact HI0.out | apply IsS101.alloc | apply IsS101.drewN | apply IsS101.drew | refine IsS101.far ?_ NB0_1014.out _ | refine IsS101.far ?_ NB0_1015.out _ | apply IsS101.set_1) | exact HI0.out)) (zr HO_40) (by decide)) hk (fun _ h => h.2)) (fun _ h => h.1))
       have n1_ := Qz.mk (Kd.Qw (Kd.R_keep (IsS101.apart (show IsS101 w0 _ g s0_0 t137 from by repeat (first | (with_reducible first | exact HI0.out | apply IsS101.alloc | apply IsS101.drewN | apply IsS101.drew | refine IsS101.far ?_ NB0_1014.out _ | refine IsS101.far ?_ NB0_1015.out _ | apply IsS101.set_1) | exact HI0.out)) (zr HO_41) (by decide)) hk (fun _ h => h.2)) (fun _ h => h.1))
       have n2_ := Qz.mk (Qau.blk hk (g' := gb123) (o := .cells #[.slice none 0 0, .slice none 0 0] 27 (0, 0)) zk NB1014_0.out (by simp))
       have n3_ := Qz.mk (Qau.blk hk (g' := gb42) (o := .cells #[.slice Ao86 x40_1.length co86, u1016001] 27 (0, 0)) zk NB1015_0.out (by simp))
       have n4_ := Qz.mk (Qau.trans yq0 hk (.inl rfl))
       have n5_ := Qz.mk (hb)
       have n6_ := Qz.mk (hi)
       clear HO_40
       clear HO_41
       clear BK123
       clear BK42
       clear HK
       clear HB
       clear HI0
       have HO_40 := n0_
       have HO_41 := n1_
       have BK123 := n2_
       have BK42 := n3_
       have HK := n4_
       have HB := n5_
       have HI0 := n6_
       clear n0_ n1_ n2_ n3_ n4_ n5_ n6_
       (try clear hb)
       (try clear hb2)
       (try clear hk)
       (try clear hi)
       refine hK.out _ _ ⟨(Qh BK42.out 0).trans rfl, (Qh BK42.out 1).trans rfl⟩ (fun hHeld => ?_)
       clear hK K
       refine norm_ (a' := ?_) ?_ ?_
       rotate_left
       ·show Act.put _ (some 49) _ = _
        simp only [Act.put, List.setIfInBounds_toArray, List.set_cons_zero, List.set_cons_succ, Qar, Qas]
        rfl
       refine one_ (i := 8) (N := some 51) #[Y, Y, Y, Y, Y, Y, Y, Y, Y, Z, Z, Z] rfl rfl (one_of HT_.out (by kernel_rfl)) (by decide) (fun K hK => ?_)
       refine goes_ Try.func64 (by kernel_rfl) rfl #[.pointer (some ⟨g, 0, none⟩), .int .i64 256] (by rfl) rfl rfl zm ?_
       with_reducible refine (Zsl1Next.calls g s0_0 t158 256 t133 t159 w0 _ ?side1 ?side2 A78.out).mono ?_
       (case side1 => exact yq3)
       (case side2 => exact yq1)
       rintro e w89 ⟨rfl, hi, hb, hk⟩
       refine ⟨_, rfl, ?_⟩
       have n0_ := Qz.mk (Kd.Qw (Kd.R_keep (IsS101.apart (show IsS101 w0 _ g s0_0 t158 from by repeat (first | (with_reducible first | exact HI0.out | apply IsS101.alloc | apply IsS101.drewN | apply IsS101.drew | refine IsS101.far ?_ NB0_1014.out _ | refine IsS101.far ?_ NB0_1015.out _ | apply IsS101.set_1) | exact HI0.out)) (zr HO_40) (by decide)) hk (fun _ h => h.2)) (fun _ h => h.1))
       have n1_ := Qz.mk (Kd.Qw (Kd.R_keep (IsS101.apart (show IsS101 w0 _ g s0_0 t158 from by repeat (first | (with_reducible first | exact HI0.out | apply IsS101.alloc | apply IsS101.drewN | apply IsS101.drew | refine IsS101.far ?_ NB0_1014.out _ | refine IsS101.far ?_ NB0_1015.out _ | apply IsS101.set_1) | exact HI0.out)) (zr HO_41) (by decide)) hk (fun _ h => h.2)) (fun _ h => h.1))
       have n2_ := Qz.mk (Qau.blk hk (g' := gb123) (o := .cells #[.slice none 0 0, .slice none 0 0] 27 (0, 0)) zk NB1014_0.out (by simp))
       have n3_ := Qz.mk (Qau.blk hk (g' := gb42) (o := .cells #[.slice Ao86 x40_1.length co86, u1016001] 27 (0, 0)) zk NB1015_0.out (by simp))
       have n4_ := Qz.mk (Qau.trans yq0 hk (.inl rfl))
       have n5_ := Qz.mk (hb)
       have n6_ := Qz.mk (hi)
       clear HO_40
       clear HO_41
       clear BK123
       clear BK42
       clear HK
       clear HB
       clear HI0
       have HO_40 := n0_
       have HO_41 := n1_
       have BK123 := n2_
       have BK42 := n3_
       have HK := n4_
       have HB := n5_
       have HI0 := n6_
       clear n0_ n1_ n2_ n3_ n4_ n5_ n6_
       (try clear hb)
       (try clear hb2)
       (try clear hk)
       (try clear hi)
       have p81 : 0 ≤ (t127 : Int) := of_decide_eq_true za
       have q81 : (t127 : Int) < ((x40_1.length : Int) : Int) := of_decide_eq_true za
       obtain ⟨go81, co81, eo81, gb81, gl81, cl81, HG81⟩ := Kd.R_form HO_40.out (by omega)
       (first | cases eo81 | (injection eo81 with ea_ en_ ec_; (first | subst ea_ | (injection ea_ with ea_; subst ea_)); subst ec_; clear en_))
       have GB81 := Qz.mk gb81
       have GG81 := Qz.mk HG81
       clear gb81 gl81 HG81
       obtain ⟨hx81_0, hf81_0⟩ := Kd.R_celln 0 HO_40.out (t127 : Int) p81 q81
       replace p81 := eq_true p81
       replace q81 := eq_true q81
       have HN0_go81 := Qz.mk (show g ≠ go81 from by have h_ := IsS101.own_ne HI0.out HO_40.out (by decide); intro e_; exact h_ (by rw [e_]; rfl))
       have HP90 := Kd.R_putn HO_40.out (t127 : Int) ((t133) % 256)
       rw [← Ny153.out] at HP90
       have HQ90 := Qz.mk HP90
       clear HP90
       refine hK.out _ _ ⟨(Qh BK42.out 0).trans rfl, (Qh BK42.out 1).trans rfl⟩ (fun hHeld => ?_)
       clear hK K
       refine norm_ (a' := ?_) ?_ ?_
       rotate_left
       ·show Act.put _ (some 51) _ = _
        simp only [Act.put, List.setIfInBounds_toArray, List.set_cons_zero, List.set_cons_succ, Qar, Qas]
        rfl
       refine zp 9 52 ?_; refine zp 10 53 ?_
       refine last_ (i := 11) (N := none) #[Y, Y, Y, Y, Y, Y, Y, Y, Y, Y, Y, Y] rfl rfl (one_of HT_.out (by kernel_rfl)) (by decide) (fun K hK => ?_)
       refine skip_ (w1 := ?_) (by rfl) rfl ?_ ?_
       rotate_left
       ·go_simp
        rfl
       refine hK.out _ _ ?_
       clear hK K
       refine done_ (done_of HT_.out (by kernel_rfl)) ?_
       have n0_ : Qz (Kd.R (Kd.int .u8) 5 (w89.setCell ⟨go81, (t127 : Int).toNat, none⟩ (.int .u8 ((t133) % 256))) w.heap.size (fun k_ => some k_ ≠ (u1016001 : Value).ownBlock) (.slice (some ⟨go81, 0, none⟩) x40_1.length co86) y153) := ⟨zr HQ90⟩
       have n1_ : Qz (Kd.R (Kd.int .u8) 5 (w89.setCell ⟨go81, (t127 : Int).toNat, none⟩ (.int .u8 ((t133) % 256))) w.heap.size (fun k_ => some k_ ≠ (.slice (some ⟨go81, 0, none⟩) x40_1.length co86 : Value).ownBlock) u1016001 x41_1) := ⟨by refine zR ?_; exact Kd.Qw (Kd.Qx (p := ⟨go81, (t127 : Int).toNat, none⟩) (Kd.Qw HO_41.out (fun k_ hk => (⟨hk, fun e_ => hk (by rw [e_]; rfl)⟩ : _ ∧ k_ ≠ go81))) (fun _ hk => hk.2) (.int .u8 ((t133) % 256))) (fun _ hk => hk.1)⟩
       have n2_ : Qz ((w89.setCell ⟨go81, (t127 : Int).toNat, none⟩ (.int .u8 ((t133) % 256))).heap[gb123]? = some (.cells #[.slice none 0 0, .slice none 0 0] 27 (0, 0))) := ⟨by refine zQ ?_; refine blk_far ?_ (by have h_ := Kd.R_ne HO_40.out BK123.out (by decide); intro e_; exact h_ (by rw [e_]; rfl)) _; refine zQ ?_; exact BK123.out⟩
       have n3_ : Qz ((w89.setCell ⟨go81, (t127 : Int).toNat, none⟩ (.int .u8 ((t133) % 256))).heap[gb42]? = some (.cells #[.slice (some ⟨go81, 0, none⟩) x40_1.length co86, u1016001] 27 (0, 0))) := ⟨by refine zQ ?_; refine blk_far ?_ (by have h_ := Kd.R_ne HO_40.out BK42.out (by decide); intro e_; exact h_ (by rw [e_]; rfl)) _; refine zQ ?_; exact BK42.out⟩
       have n4_ : Qz (IsS101 w0 (w89.setCell ⟨go81, (t127 : Int).toNat, none⟩ (.int .u8 ((t133) % 256))) g s0_0 t159) := ⟨by repeat (first | (with_reducible first | exact HI0.out | apply IsS101.alloc | apply IsS101.drewN | apply IsS101.drew | refine IsS101.far ?_ HN0_go81.out _ | refine IsS101.far ?_ NB0_1014.out _ | refine IsS101.far ?_ NB0_1015.out _ | apply IsS101.set_1) | exact HI0.out)⟩
       have n5_ : Qz (Qau w (w89.setCell ⟨go81, (t127 : Int).toNat, none⟩ (.int .u8 ((t133) % 256))) g none) := ⟨by repeat (first | (with_reducible first | exact HK.out | apply Qau.set_ | apply keep_drewN | apply keep_drew | apply keep_alloc | refine keep_far ?_ GB81.out _ | refine keep_far ?_ GW123.out _ | refine keep_far ?_ GW42.out _) | exact HK.out)⟩
       have n6_ : Qz (Below w0.heap.size w0 (w89.setCell ⟨go81, (t127 : Int).toNat, none⟩ (.int .u8 ((t133) % 256)))) := ⟨by repeat (first | (with_reducible first | exact HB.out | apply Qc | apply Qa | apply Qb | refine Qd ?_ (Nat.le_trans HL.out GB81.out) | refine Qd ?_ (IsS101.ge HI0.out) | refine Qd ?_ GE123.out | refine Qd ?_ GE42.out) | exact HB.out)⟩
       (try clear HO_40)
       (try clear HO_41)
       (try clear BK123)
       (try clear BK42)
       (try clear HI0)
       (try clear HK)
       (try clear HB)
       rw [show (IntKind.wrap .u8 t133 : Int) = t133 % 256 from IntKind.wrap_u8 _]
       generalize (w89.setCell ⟨go81, (t127 : Int).toNat, none⟩ (.int .u8 ((t133) % 256))) = w91 at n0_ n1_ n2_ n3_ n4_ n5_ n6_ ⊢
       have HO_40 := n0_
       have HO_41 := n1_
       have BK123 := n2_
       have BK42 := n3_
       have HI0 := n4_
       have HK := n5_
       have HB := n6_
       clear n0_ n1_ n2_ n3_ n4_ n5_ n6_
       obtain ⟨z92_0, z92_1, j92_0, j92_1⟩ := Lv.blks2 BK42.out
       have hnb93 := NB1014_0.out
       have hnc93 := NB0_1014.out
       obtain ⟨z94_0, z94_1, j94_0, j94_1⟩ := Lv.blks2 BK123.out
       obtain ⟨Ao95, co95, eo95⟩ := Kd.R_slice HO_41.out
       subst eo95
       try go_wp2
       refine bodyPost_ret (results_cell_row rfl _ _ gb123 27 #[.slice (some ⟨go81, 0, none⟩) x40_1.length co86, .slice Ao95 x41_1.length co95] (0, 0) _ rfl (by refine zQ ?_; refine Qk (cs := #[.slice (some ⟨go81, 0, none⟩) x40_1.length co86, .slice none 0 0]) ?_ 1 _ rfl; refine zQ ?_; refine Qk (cs := #[.slice none 0 0, .slice none 0 0]) ?_ 0 _ rfl; refine zQ ?_; exact BK123.out) Try.underlying27 rfl (by kernel_rfl)) rfl ?_
       exact ⟨_, _, ze, by refine zR ?_; exact Kd.Qw (Kd.Qx (p := ⟨gb123, 1, none⟩) (Kd.Qx (p := ⟨gb123, 0, none⟩) (Kd.Qai HO_40.out BK123.out (by decide)) (fun _ hk => hk.2) (.slice (some ⟨go81, 0, none⟩) x40_1.length co86)) (fun _ hk => hk.2) (.slice Ao95 x41_1.length co95)) (fun _ hk => hk.1), by refine zR ?_; exact Kd.Qw (Kd.Qx (p := ⟨gb123, 1, none⟩) (Kd.Qx (p := ⟨gb123, 0, none⟩) (Kd.Qai HO_41.out BK123.out (by decide)) (fun _ hk => hk.2) (.slice (some ⟨go81, 0, none⟩) x40_1.length co86)) (fun _ hk => hk.2) (.slice Ao95 x41_1.length co95)) (fun _ hk => hk.1), by first | exact (IsS101.far (p := ⟨gb123, 1, none⟩) (IsS101.far (p := ⟨gb123, 0, none⟩) HI0.out NB0_1014.out _) NB0_1014.out _) | (repeat (first | (with_reducible first | exact HI0.out | apply IsS101.alloc | apply IsS101.drewN | apply IsS101.drew | refine IsS101.far ?_ NB0_1014.out _ | refine IsS101.far ?_ NB0_1015.out _ | apply IsS101.set_1) | exact HI0.out)), by repeat (first | (with_reducible first | exact HB.out | apply Qc | apply Qa | apply Qb | refine Qd ?_ (IsS101.ge HI0.out) | refine Qd ?_ GE123.out | refine Qd ?_ GE42.out) | exact HB.out), by repeat (first | (with_reducible first | exact HK.out | apply Qau.set_ | apply keep_drewN | apply keep_drew | apply keep_alloc | refine keep_far ?_ GW123.out _ | refine keep_far ?_ GW42.out _) | exact HK.out)⟩
      rw [if_neg c80] at H
      exact absurd H (by simp)
     rw [if_neg c79] at H
     exact absurd H (by simp)
    rw [if_neg c76] at H
    have c76b0 : decide (0 < (x40_1.length : Int)) = false := decide_eq_false c76
    have c76b1 : decide (0 < x40_1.length) = false := decide_eq_false (by omega)
    clear c76
    simp only [Option.some.injEq, Prod.mk.injEq] at H
    obtain ⟨rfl, rfl, rfl⟩ := H
    go_wp2_with (first | ((with_reducible refine gate_callee (f := 64) rfl ?_); refine Qat (some 29) rfl rfl Try.func64 (by kernel_rfl) rfl #[.pointer (some ⟨g, 0, none⟩), .int .i64 20] rfl zm ?_; (with_reducible refine (Zsl1Next.calls g s0_0 x128_1 20 t132 t137 w0 _ ?side1 ?side2 A59.out).mono ?_); (case side1 => exact yq3); (case side2 => exact yq1); rintro e w96 ⟨rfl, hi, hb, hk⟩; refine ⟨_, rfl, ?_⟩; have n0_ := Qz.mk (Kd.Qw (Kd.R_keep (IsS101.apart (show IsS101 w0 _ g s0_0 x128_1 from by repeat (first | (with_reducible first | exact HI0.out | apply IsS101.alloc | apply IsS101.drewN | apply IsS101.drew | refine IsS101.far ?_ NB0_1014.out _ | refine IsS101.far ?_ NB0_1015.out _ | apply IsS101.set_1) | exact HI0.out)) (zr HO_40) (by decide)) hk (fun _ h => h.2)) (fun _ h => h.1)); have n1_ := Qz.mk (Kd.Qw (Kd.R_keep (IsS101.apart (show IsS101 w0 _ g s0_0 x128_1 from by repeat (first | (with_reducible first | exact HI0.out | apply IsS101.alloc | apply IsS101.drewN | apply IsS101.drew | refine IsS101.far ?_ NB0_1014.out _ | refine IsS101.far ?_ NB0_1015.out _ | apply IsS101.set_1) | exact HI0.out)) (zr HO_41) (by decide)) hk (fun _ h => h.2)) (fun _ h => h.1)); have n2_ := Qz.mk (Qau.blk hk (g' := gb123) (o := .cells #[.slice none 0 0, .slice none 0 0] 27 (0, 0)) zk NB1014_0.out (by simp)); have n3_ := Qz.mk (Qau.blk hk (g' := gb42) (o := .cells #[u1016000, u1016001] 27 (0, 0)) zk NB1015_0.out (by simp)); have n4_ := Qz.mk (Qau.trans yq0 hk (.inl rfl)); have n5_ := Qz.mk (hb); have n6_ := Qz.mk (hi); clear HO_40; clear HO_41; clear BK123; clear BK42; clear HK; clear HB; clear HI0; have HO_40 := n0_; have HO_41 := n1_; have BK123 := n2_; have BK42 := n3_; have HK := n4_; have HB := n5_; have HI0 := n6_; clear n0_ n1_ n2_ n3_ n4_ n5_ n6_; (try clear hb); (try clear hb2); (try clear hk); (try clear hi); have hnb97 := NB1015_1014.out; have hnc97 := NB1014_1015.out; have hnb98 := NB1015_0.out; have hnc98 := NB0_1015.out; obtain ⟨z99_0, z99_1, j99_0, j99_1⟩ := Lv.blks2 BK42.out; obtain ⟨Ao100, co100, eo100⟩ := Kd.R_slice HO_40.out; subst eo100; have hnb101 := NB1014_0.out; have hnc101 := NB0_1014.out; obtain ⟨z102_0, z102_1, j102_0, j102_1⟩ := Lv.blks2 BK123.out; obtain ⟨Ao103, co103, eo103⟩ := Kd.R_slice HO_41.out; subst eo103))
    refine bodyPost_ret (results_cell_row rfl _ _ gb123 27 #[.slice Ao100 x40_1.length co100, .slice Ao103 x41_1.length co103] (0, 0) _ rfl (by refine zQ ?_; refine Qk (cs := #[.slice Ao100 x40_1.length co100, .slice none 0 0]) ?_ 1 _ rfl; refine zQ ?_; refine Qk (cs := #[.slice none 0 0, .slice none 0 0]) ?_ 0 _ rfl; refine zQ ?_; exact BK123.out) Try.underlying27 rfl (by kernel_rfl)) rfl ?_
    exact ⟨_, _, ze, by refine zR ?_; exact Kd.Qw (Kd.Qx (p := ⟨gb123, 1, none⟩) (Kd.Qx (p := ⟨gb123, 0, none⟩) (Kd.Qai HO_40.out BK123.out (by decide)) (fun _ hk => hk.2) (.slice Ao100 x40_1.length co100)) (fun _ hk => hk.2) (.slice Ao103 x41_1.length co103)) (fun _ hk => hk.1), by refine zR ?_; exact Kd.Qw (Kd.Qx (p := ⟨gb123, 1, none⟩) (Kd.Qx (p := ⟨gb123, 0, none⟩) (Kd.Qai HO_41.out BK123.out (by decide)) (fun _ hk => hk.2) (.slice Ao100 x40_1.length co100)) (fun _ hk => hk.2) (.slice Ao103 x41_1.length co103)) (fun _ hk => hk.1), by first | exact (IsS101.far (p := ⟨gb123, 1, none⟩) (IsS101.far (p := ⟨gb123, 0, none⟩) HI0.out NB0_1014.out _) NB0_1014.out _) | (repeat (first | (with_reducible first | exact HI0.out | apply IsS101.alloc | apply IsS101.drewN | apply IsS101.drew | refine IsS101.far ?_ NB0_1014.out _ | refine IsS101.far ?_ NB0_1015.out _ | apply IsS101.set_1) | exact HI0.out)), by repeat (first | (with_reducible first | exact HB.out | apply Qc | apply Qa | apply Qb | refine Qd ?_ (IsS101.ge HI0.out) | refine Qd ?_ GE123.out | refine Qd ?_ GE42.out) | exact HB.out), by repeat (first | (with_reducible first | exact HK.out | apply Qau.set_ | apply keep_drewN | apply keep_drew | apply keep_alloc | refine keep_far ?_ GW123.out _ | refine keep_far ?_ GW42.out _) | exact HK.out)⟩
   rw [if_neg c75] at H
   have c75b0 : (t132 == 1) = false := beq_eq_false_iff_ne.mpr c75
   have c75b1 : (t132 != 1) = true := bne_iff_ne.mpr c75
   by_cases c104 : t132 = 2
   ·rw [if_pos c104] at H
    have c104b0 : (t132 == 2) = true := beq_iff_eq.mpr c104
    have c104b1 : (t132 != 2) = false := bne_eq_false_iff_eq.mpr c104
    clear c104
    obtain ⟨y138, hy138⟩ : ∃ y_ : List Int, y_ = (List.replicate 4001 0) := ⟨_, rfl⟩
    replace H : (some (y138, x41_1, t137)) = some (r1, r2, r3) := by first | (rw [hy138]; with_reducible exact H) | (have H2_ := (Option.bind_some _ _).symm.trans H; rw [hy138]; with_reducible exact H2_) | (have H2_ := (Option.bind_some _ _).symm.trans H; with_reducible exact H2_) | with_reducible exact H | (rw [hy138]; exact H) | exact H
    have Ny138 := Qz.mk hy138
    clear hy138
    simp only [Option.some.injEq, Prod.mk.injEq] at H
    obtain ⟨rfl, rfl, rfl⟩ := H
    go_wp2_with (first | ((with_reducible refine gate_callee (f := 64) rfl ?_); refine Qat (some 29) rfl rfl Try.func64 (by kernel_rfl) rfl #[.pointer (some ⟨g, 0, none⟩), .int .i64 20] rfl zm ?_; (with_reducible refine (Zsl1Next.calls g s0_0 x128_1 20 t132 t137 w0 _ ?side1 ?side2 A59.out).mono ?_); (case side1 => exact yq3); (case side2 => exact yq1); rintro e w105 ⟨rfl, hi, hb, hk⟩; refine ⟨_, rfl, ?_⟩; have n0_ := Qz.mk (Kd.Qw (Kd.R_keep (IsS101.apart (show IsS101 w0 _ g s0_0 x128_1 from by repeat (first | (with_reducible first | exact HI0.out | apply IsS101.alloc | apply IsS101.drewN | apply IsS101.drew | refine IsS101.far ?_ NB0_1014.out _ | refine IsS101.far ?_ NB0_1015.out _ | apply IsS101.set_1) | exact HI0.out)) (zr HO_40) (by decide)) hk (fun _ h => h.2)) (fun _ h => h.1)); have n1_ := Qz.mk (Kd.Qw (Kd.R_keep (IsS101.apart (show IsS101 w0 _ g s0_0 x128_1 from by repeat (first | (with_reducible first | exact HI0.out | apply IsS101.alloc | apply IsS101.drewN | apply IsS101.drew | refine IsS101.far ?_ NB0_1014.out _ | refine IsS101.far ?_ NB0_1015.out _ | apply IsS101.set_1) | exact HI0.out)) (zr HO_41) (by decide)) hk (fun _ h => h.2)) (fun _ h => h.1)); have n2_ := Qz.mk (Qau.blk hk (g' := gb123) (o := .cells #[.slice none 0 0, .slice none 0 0] 27 (0, 0)) zk NB1014_0.out (by simp)); have n3_ := Qz.mk (Qau.blk hk (g' := gb42) (o := .cells #[u1016000, u1016001] 27 (0, 0)) zk NB1015_0.out (by simp)); have n4_ := Qz.mk (Qau.trans yq0 hk (.inl rfl)); have n5_ := Qz.mk (hb); have n6_ := Qz.mk (hi); clear HO_40; clear HO_41; clear BK123; clear BK42; clear HK; clear HB; clear HI0; have HO_40 := n0_; have HO_41 := n1_; have BK123 := n2_; have BK42 := n3_; have HK := n4_; have HB := n5_; have HI0 := n6_; clear n0_ n1_ n2_ n3_ n4_ n5_ n6_; (try clear hb); (try clear hb2); (try clear hk); (try clear hi)) | ((with_reducible refine gate_dst (N := 56) rfl ?_); refine Kd.R_make (Kd.int .u8) _ 5 rfl (N := 56) rfl 22 _ _ rfl 4001 rfl rfl Try.underlying22 (.int .u8 0) 1 info5 rfl (by decide) (by omega) 0 (ok := fun _ => True) (okp := fun _ => True) rfl (fun _ hk => hk) trivial (by omega) (by omega) (Below.refl _ _) (Nat.le_refl _) ?_; intro v169 w106 ho107 hb hg_ hnew_; clear hg_ hnew_; (first | rw [← Ny138.out] at ho107 | (simp only [Int.reduceToNat] at ho107; rw [← Ny138.out] at ho107)); have n0_ := Qz.mk (Kd.R_elder' (zr HO_40) (Kd.Qah ho107) hb); have n1_ := Qz.mk (Kd.R_elder' (zr HO_41) (Kd.Qah ho107) hb); have n2_ := Qz.mk (Kd.Qan (Kd.Qal (Kd.Qal ho107 (Kd.R_lt (zr HO_40))) (Kd.R_lt (zr HO_41))) (keep_size (w := w) (g := g) (row := none) yq0)); have n3_ := Qz.mk (Qi (g := gb123) (o := .cells #[.slice none 0 0, .slice none 0 0] 27 (0, 0)) zk hb); have n4_ := Qz.mk (Qi (g := gb42) (o := .cells #[u1016000, u1016001] 27 (0, 0)) zk hb); have n5_ := Qz.mk (IsS101.below yq3 hb); have n6_ := Qz.mk (Qau.trans yq0 (Qau.of_below hb g none) (.inl rfl)); have n7_ := Qz.mk (Qq yq1 hb); clear HO_40; clear HO_41; clear BK123; clear BK42; clear HI0; clear HK; clear HB; have HO_40 := n0_; have HO_41 := n1_; have HO164 := n2_; have BK123 := n3_; have BK42 := n4_; have HI0 := n5_; have HK := n6_; have HB := n7_; clear n0_ n1_ n2_ n3_ n4_ n5_ n6_ n7_; clear hb ho107; obtain ⟨Ao108, co108, eo108⟩ := Kd.R_slice HO164.out; subst eo108; have hnb109 := NB1015_1014.out; have hnc109 := NB1014_1015.out; have hnb110 := NB1015_0.out; have hnc110 := NB0_1015.out; obtain ⟨z111_0, z111_1, j111_0, j111_1⟩ := Lv.blks2 BK42.out; have hnb112 := NB1014_0.out; have hnc112 := NB0_1014.out; obtain ⟨z113_0, z113_1, j113_0, j113_1⟩ := Lv.blks2 BK123.out; obtain ⟨Ao114, co114, eo114⟩ := Kd.R_slice HO_41.out; subst eo114))
    refine bodyPost_ret (results_cell_row rfl _ _ gb123 27 #[.slice Ao108 y138.length co108, .slice Ao114 x41_1.length co114] (0, 0) _ rfl (by refine zQ ?_; refine Qk (cs := #[.slice Ao108 y138.length co108, .slice none 0 0]) ?_ 1 _ rfl; refine zQ ?_; refine Qk (cs := #[.slice none 0 0, .slice none 0 0]) ?_ 0 _ rfl; refine zQ ?_; refine blk_far ?_ NB1014_1015.out _; refine zQ ?_; exact BK123.out) Try.underlying27 rfl (by kernel_rfl)) rfl ?_
    exact ⟨_, _, ze, by refine zR ?_; exact Kd.Qw (Kd.Qx (p := ⟨gb123, 1, none⟩) (Kd.Qx (p := ⟨gb123, 0, none⟩) (Kd.Qx (p := ⟨gb42, 0, none⟩) (Kd.Qai (Kd.Qai HO164.out BK42.out (by decide)) BK123.out (by decide)) (fun _ hk => hk.1.2) (.slice Ao108 y138.length co108)) (fun _ hk => hk.2) (.slice Ao108 y138.length co108)) (fun _ hk => hk.2) (.slice Ao114 x41_1.length co114)) (fun _ hk => hk.1.1.2), by refine zR ?_; exact Kd.Qw (Kd.Qx (p := ⟨gb123, 1, none⟩) (Kd.Qx (p := ⟨gb123, 0, none⟩) (Kd.Qx (p := ⟨gb42, 0, none⟩) (Kd.Qai (Kd.Qai HO_41.out BK42.out (by decide)) BK123.out (by decide)) (fun _ hk => hk.1.2) (.slice Ao108 y138.length co108)) (fun _ hk => hk.2) (.slice Ao108 y138.length co108)) (fun _ hk => hk.2) (.slice Ao114 x41_1.length co114)) (fun _ hk => hk.1.1.2), by first | exact (IsS101.far (p := ⟨gb123, 1, none⟩) (IsS101.far (p := ⟨gb123, 0, none⟩) (IsS101.far (p := ⟨gb42, 0, none⟩) HI0.out NB0_1015.out _) NB0_1014.out _) NB0_1014.out _) | (repeat (first | (with_reducible first | exact HI0.out | apply IsS101.alloc | apply IsS101.drewN | apply IsS101.drew | refine IsS101.far ?_ NB0_1014.out _ | refine IsS101.far ?_ NB0_1015.out _ | apply IsS101.set_1) | exact HI0.out)), by repeat (first | (with_reducible first | exact HB.out | apply Qc | apply Qa | apply Qb | refine Qd ?_ (IsS101.ge HI0.out) | refine Qd ?_ GE123.out | refine Qd ?_ GE42.out) | exact HB.out), by repeat (first | (with_reducible first | exact HK.out | apply Qau.set_ | apply keep_drewN | apply keep_drew | apply keep_alloc | refine keep_far ?_ GW123.out _ | refine keep_far ?_ GW42.out _) | exact HK.out)⟩
   rw [if_neg c104] at H
   have c104b0 : (t132 == 2) = false := beq_eq_false_iff_ne.mpr c104
   have c104b1 : (t132 != 2) = true := bne_iff_ne.mpr c104
   simp only [Option.some.injEq, Prod.mk.injEq] at H
   obtain ⟨rfl, rfl, rfl⟩ := H
   go_wp2_with (first | ((with_reducible refine gate_callee (f := 64) rfl ?_); refine Qat (some 29) rfl rfl Try.func64 (by kernel_rfl) rfl #[.pointer (some ⟨g, 0, none⟩), .int .i64 20] rfl zm ?_; (with_reducible refine (Zsl1Next.calls g s0_0 x128_1 20 t132 t137 w0 _ ?side1 ?side2 A59.out).mono ?_); (case side1 => exact yq3); (case side2 => exact yq1); rintro e w115 ⟨rfl, hi, hb, hk⟩; refine ⟨_, rfl, ?_⟩; have n0_ := Qz.mk (Kd.Qw (Kd.R_keep (IsS101.apart (show IsS101 w0 _ g s0_0 x128_1 from by repeat (first | (with_reducible first | exact HI0.out | apply IsS101.alloc | apply IsS101.drewN | apply IsS101.drew | refine IsS101.far ?_ NB0_1014.out _ | refine IsS101.far ?_ NB0_1015.out _ | apply IsS101.set_1) | exact HI0.out)) (zr HO_40) (by decide)) hk (fun _ h => h.2)) (fun _ h => h.1)); have n1_ := Qz.mk (Kd.Qw (Kd.R_keep (IsS101.apart (show IsS101 w0 _ g s0_0 x128_1 from by repeat (first | (with_reducible first | exact HI0.out | apply IsS101.alloc | apply IsS101.drewN | apply IsS101.drew | refine IsS101.far ?_ NB0_1014.out _ | refine IsS101.far ?_ NB0_1015.out _ | apply IsS101.set_1) | exact HI0.out)) (zr HO_41) (by decide)) hk (fun _ h => h.2)) (fun _ h => h.1)); have n2_ := Qz.mk (Qau.blk hk (g' := gb123) (o := .cells #[.slice none 0 0, .slice none 0 0] 27 (0, 0)) zk NB1014_0.out (by simp)); have n3_ := Qz.mk (Qau.blk hk (g' := gb42) (o := .cells #[u1016000, u1016001] 27 (0, 0)) zk NB1015_0.out (by simp)); have n4_ := Qz.mk (Qau.trans yq0 hk (.inl rfl)); have n5_ := Qz.mk (hb); have n6_ := Qz.mk (hi); clear HO_40; clear HO_41; clear BK123; clear BK42; clear HK; clear HB; clear HI0; have HO_40 := n0_; have HO_41 := n1_; have BK123 := n2_; have BK42 := n3_; have HK := n4_; have HB := n5_; have HI0 := n6_; clear n0_ n1_ n2_ n3_ n4_ n5_ n6_; (try clear hb); (try clear hb2); (try clear hk); (try clear hi); have hnb116 := NB1015_1014.out; have hnc116 := NB1014_1015.out; have hnb117 := NB1015_0.out; have hnc117 := NB0_1015.out; obtain ⟨z118_0, z118_1, j118_0, j118_1⟩ := Lv.blks2 BK42.out; obtain ⟨Ao119, co119, eo119⟩ := Kd.R_slice HO_40.out; subst eo119; have hnb120 := NB1014_0.out; have hnc120 := NB0_1014.out; obtain ⟨z121_0, z121_1, j121_0, j121_1⟩ := Lv.blks2 BK123.out; obtain ⟨Ao122, co122, eo122⟩ := Kd.R_slice HO_41.out; subst eo122))
   refine bodyPost_ret (results_cell_row rfl _ _ gb123 27 #[.slice Ao119 x40_1.length co119, .slice Ao122 x41_1.length co122] (0, 0) _ rfl (by refine zQ ?_; refine Qk (cs := #[.slice Ao119 x40_1.length co119, .slice none 0 0]) ?_ 1 _ rfl; refine zQ ?_; refine Qk (cs := #[.slice none 0 0, .slice none 0 0]) ?_ 0 _ rfl; refine zQ ?_; exact BK123.out) Try.underlying27 rfl (by kernel_rfl)) rfl ?_
   exact ⟨_, _, ze, by refine zR ?_; exact Kd.Qw (Kd.Qx (p := ⟨gb123, 1, none⟩) (Kd.Qx (p := ⟨gb123, 0, none⟩) (Kd.Qai HO_40.out BK123.out (by decide)) (fun _ hk => hk.2) (.slice Ao119 x40_1.length co119)) (fun _ hk => hk.2) (.slice Ao122 x41_1.length co122)) (fun _ hk => hk.1), by refine zR ?_; exact Kd.Qw (Kd.Qx (p := ⟨gb123, 1, none⟩) (Kd.Qx (p := ⟨gb123, 0, none⟩) (Kd.Qai HO_41.out BK123.out (by decide)) (fun _ hk => hk.2) (.slice Ao119 x40_1.length co119)) (fun _ hk => hk.2) (.slice Ao122 x41_1.length co122)) (fun _ hk => hk.1), by first | exact (IsS101.far (p := ⟨gb123, 1, none⟩) (IsS101.far (p := ⟨gb123, 0, none⟩) HI0.out NB0_1014.out _) NB0_1014.out _) | (repeat (first | (with_reducible first | exact HI0.out | apply IsS101.alloc | apply IsS101.drewN | apply IsS101.drew | refine IsS101.far ?_ NB0_1014.out _ | refine IsS101.far ?_ NB0_1015.out _ | apply IsS101.set_1) | exact HI0.out)), by repeat (first | (with_reducible first | exact HB.out | apply Qc | apply Qa | apply Qb | refine Qd ?_ (IsS101.ge HI0.out) | refine Qd ?_ GE123.out | refine Qd ?_ GE42.out) | exact HB.out), by repeat (first | (with_reducible first | exact HK.out | apply Qau.set_ | apply keep_drewN | apply keep_drew | apply keep_alloc | refine keep_far ?_ GW123.out _ | refine keep_far ?_ GW42.out _) | exact HK.out)⟩
end Go.Proofs.Ythagppmaofcllaa.P
