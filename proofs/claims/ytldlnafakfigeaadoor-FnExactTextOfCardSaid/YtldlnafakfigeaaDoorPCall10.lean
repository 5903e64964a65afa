import Derived.Test.YtldlnafakfigeaaDoorZz
import Derived.Test.YtldlnafakfigeaaDoorP0
import Derived.Test.YtldlnafakfigeaaDoorPCall9
import Derived.Test.YtldlnafakfigeaaDoorPDall0
import Derived.Test.YtldlnafakfigeaaDoorWRepsOne
import Derived.Test.YtldlnafakfigeaaDoorWTab
import Derived.Test.YtldlnafakfigeaaDoorLv
namespace Go.Proofs.YtldlnafakfigeaaDoor.P
open Go.RowKit Go.Proofs.YtldlnafakfigeaaDoorW.PrintWords Go.Proofs.YtldlnafakfigeaaDoorW.PrintLast Go.Proofs.YtldlnafakfigeaaDoorW.PrintMore
attribute [local go_sem] max2_int min2_int max_two min_two max_three min_three max_four min_four   -- for this text's walks alone
set_option linter.unusedVariables false
set_option linter.unusedSimpArgs false
def impl_Engine_text.T1 : Bool × List (List Nat × List Nat) := (true, [([], []), ([0], [0]), ([1], [1]), ([], []), ([3], [3]), ([4, 2], [4]), ([2, 5], [2, 5]), ([6, 5], [6]), ([7], [7]), ([8, 7, 0, 1, 2, 3, 4, 5, 6, 7, 8], [8])])
def impl_Engine_text.B1 : List Nat := [0, 1, 3, 0, 8, 31, 63, 127, 255, 511]
theorem impl_Engine_text.tab1 : rtab .any (opsOf Tryd.f18 1) = impl_Engine_text.T1 := by kernel_rfl
theorem impl_Engine_text.bits1 : waitsOk impl_Engine_text.T1.2 impl_Engine_text.B1 = true := by kernel_rfl
def impl_Engine_text.T5 : Bool × List (List Nat × List Nat) := (true, [([], []), ([], []), ([1], [1]), ([2], [2]), ([], []), ([4], [4]), ([5, 3], [5]), ([], []), ([7], [7]), ([8, 6], [8]), ([], []), ([10], [10]), ([11, 9], [11]), ([], []), ([13], [13]), ([14], [14]), ([15, 12], [15]), ([3, 6, 9, 12, 16], [3, 6, 9, 12, 16]), ([17, 16], [17]), ([18], [18]), ([0, 19], [0, 19]), ([20, 18, 0, 1, 2, 3, 4, 5, 6, 7, 8, 9, 10, 11, 12, 13, 14, 15, 16, 17, 18, 19, 20], [0, 20])])
def impl_Engine_text.B5 : List Nat := [0, 0, 2, 6, 0, 16, 62, 0, 128, 510, 0, 1024, 4094, 0, 8192, 24576, 65534, 131070, 262142, 524286, 1048575, 2097151]
theorem impl_Engine_text.tab5 : rtab .any (opsOf Tryd.f18 5) = impl_Engine_text.T5 := by kernel_rfl
theorem impl_Engine_text.bits5 : waitsOk impl_Engine_text.T5.2 impl_Engine_text.B5 = true := by kernel_rfl
def impl_Engine_text.T14 : Bool × List (List Nat × List Nat) := (true, [([], []), ([0], [0]), ([1], [1]), ([2], [2]), ([], []), ([4], [4]), ([5, 2], [5]), ([3, 6], [3, 6]), ([7, 6, 0, 1, 2, 3, 4, 5, 6, 7], [7])])
def impl_Engine_text.B14 : List Nat := [0, 1, 3, 7, 0, 16, 55, 127, 255]
theorem impl_Engine_text.tab14 : rtab .any (opsOf Tryd.f18 14) = impl_Engine_text.T14 := by kernel_rfl
theorem impl_Engine_text.bits14 : waitsOk impl_Engine_text.T14.2 impl_Engine_text.B14 = true := by kernel_rfl
set_option maxHeartbeats 8000000 in
set_option maxRecDepth 100000 in
theorem impl_Engine_text.calls (k : Nat) (a0_0 : Int) (a0_1 : Int) (A0_2 : Option Addr) (c0_2 : Nat) (l0_2 : List (S45)) (A0_3 : Option Addr) (c0_3 : Nat) (l0_3 : List (S49)) (r : ByteArray) (w : World) (hr0_2 : Kd.C k45 w A0_2 l0_2.length l0_2) (hc0_2 : l0_2.length ≤ c0_2) (hr0_3 : Kd.C k49 w A0_3 l0_3.length l0_3) (hc0_3 : l0_3.length ≤ c0_3) (h : impl_Engine_text.f k a0_0 a0_1 l0_2 l0_3 = some r) (HTAB : Aside0 (TabAll w) := by exact TabAll.on HTAB (by repeat (first | (with_reducible first | exact HB.out | apply below_alloc | apply pw_below_drewN | apply below_drew1 | refine below_set ?_ (Aside0.out (by assumption))) | exact HB.out))) :
 Calls Tryd.prog 18 #[.agg #[.int .i64 a0_0, .int .i64 a0_1, .slice A0_2 l0_2.length c0_2, .slice A0_3 l0_3.length c0_3]] w fun e w' => e = .returned (.string r) ∧ Below w.heap.size w w' := by
 have hu33 := Tryd.underlying33
 have hu45 := Tryd.underlying45
 have hu49 := Tryd.underlying49
 have hu51 := Tryd.underlying51
 have HR0_2 := Aside0.mk hr0_2
 have HC0_2 := Aside0.mk hc0_2
 clear hr0_2 hc0_2
 have HR0_3 := Aside0.mk hr0_3
 have HC0_3 := Aside0.mk hc0_3
 clear hr0_3 hc0_3
 have HB := Aside0.mk (Below.refl w.heap.size w)
 have H : ((impl_dec.f a0_1).bind fun t243 => ((impl_dec.f a0_0).bind fun t244 => ((impl_joined.f (([(⟨#[99, 108, 111, 99, 107]⟩ : ByteArray), t243, t244] : List ByteArray))).bind fun t248 => (if t248.size + 1 ≤ 9223372036854775807 then (impl_Engine_text.l0 k (t248 ++ (⟨#[10]⟩ : ByteArray)) l0_2 (l0_2.length : Int) 0 a0_0 a0_1 l0_2 l0_3) else (none))))) = some r := h
 clear h
 replace H := Option.bind_eq_some_iff.mp H
 obtain ⟨t243, A20, H⟩ := H
 replace H : ((impl_dec.f a0_0).bind fun t244 => ((impl_joined.f (([(⟨#[99, 108, 111, 99, 107]⟩ : ByteArray), t243, t244] : List ByteArray))).bind fun t248 => (if t248.size + 1 ≤ 9223372036854775807 then (impl_Engine_text.l0 k (t248 ++ (⟨#[10]⟩ : ByteArray)) l0_2 (l0_2.length : Int) 0 a0_0 a0_1 l0_2 l0_3) else (none)))) = some r := H
 have A2 := Aside0.mk A20
 clear A20
 replace H := Option.bind_eq_some_iff.mp H
 obtain ⟨t244, A30, H⟩ := H
 replace H : ((impl_joined.f (([(⟨#[99, 108, 111, 99, 107]⟩ : ByteArray), t243, t244] : List ByteArray))).bind fun t248 => (if t248.size + 1 ≤ 9223372036854775807 then (impl_Engine_text.l0 k (t248 ++ (⟨#[10]⟩ : ByteArray)) l0_2 (l0_2.length : Int) 0 a0_0 a0_1 l0_2 l0_3) else (none))) = some r := H
 have A3 := Aside0.mk A30
 clear A30
 obtain ⟨y245, hy245⟩ : ∃ y_ : List ByteArray, y_ = (([(⟨#[99, 108, 111, 99, 107]⟩ : ByteArray), t243, t244] : List ByteArray)) := ⟨_, rfl⟩
 replace H : ((impl_joined.f y245).bind fun t248 => (if t248.size + 1 ≤ 9223372036854775807 then (impl_Engine_text.l0 k (t248 ++ (⟨#[10]⟩ : ByteArray)) l0_2 (l0_2.length : Int) 0 a0_0 a0_1 l0_2 l0_3) else (none))) = some r := by first | (rw [hy245]; with_reducible exact H) | (have H2_ := (Option.bind_some _ _).symm.trans H; rw [hy245]; with_reducible exact H2_) | (have H2_ := (Option.bind_some _ _).symm.trans H; with_reducible exact H2_) | with_reducible exact H | (rw [hy245]; exact H) | exact H
 have Ny245 := Aside0.mk hy245
 clear hy245
 replace H := Option.bind_eq_some_iff.mp H
 obtain ⟨t248, A40, H⟩ := H
 replace H : (if t248.size + 1 ≤ 9223372036854775807 then (impl_Engine_text.l0 k (t248 ++ (⟨#[10]⟩ : ByteArray)) l0_2 (l0_2.length : Int) 0 a0_0 a0_1 l0_2 l0_3) else (none)) = some r := H
 have A4 := Aside0.mk A40
 clear A40
 by_cases c5 : t248.size + 1 ≤ 9223372036854775807
 ·rw [if_pos c5] at H
  have c5b0 := eq_true c5
  have c5b1 : decide (t248.size + 1 ≤ 9223372036854775807) = true := decide_eq_true c5
  try have c5b2 : (9223372036854775807 < t248.size + 1) = False := eq_false (Nat.not_lt.2 c5)
  have H' := Aside0.mk H
  clear H
  go_enter Tryd.func18, Tryd.ntmps18
  try go_wp2_with (first | ((with_reducible refine gate_dst (N := 1) rfl ?_); refine zE 1 33 #[.int .i64 a0_0, .int .i64 a0_1, .slice A0_2 l0_2.length c0_2, .slice A0_3 l0_3.length c0_3] ?_; intro gb94 hg w6 hbox hb; have BK94 := Aside0.mk hbox; have GW94 := Aside0.mk (zh hg : w.heap.size ≤ gb94); have GE94 := GW94; replace HB := Aside0.mk (below_step zb hb); clear hb hbox hg))
  replace BK94 := Aside0.mk (blk_drew BK94.out)
  replace HB := Aside0.mk (below_drew1 HB.out)
  refine start_ (n := 10) (S := fun w' => w'.cell? ⟨gb94, 0, none⟩ = some (.int .i64 a0_0) ∧ w'.cell? ⟨gb94, 1, none⟩ = some (.int .i64 a0_1) ∧ w'.cell? ⟨gb94, 2, none⟩ = some (.slice A0_2 l0_2.length c0_2) ∧ w'.cell? ⟨gb94, 3, none⟩ = some (.slice A0_3 l0_3.length c0_3)) (ds := []) #[Z, Z, Z, Z, Z, Z, Z, Z, Z, Z] (by kernel_rfl) rfl rfl ⟨(blk_cell BK94.out 0).trans rfl, (blk_cell BK94.out 1).trans rfl, (blk_cell BK94.out 2).trans rfl, (blk_cell BK94.out 3).trans rfl⟩ (fun hHeld => ?_); refine with_tabW impl_Engine_text.tab1 impl_Engine_text.bits1 (fun HT_ HW_ => ?_)
  generalize w6.drew = w7 at BK94 HB hHeld ⊢
  refine zp 0 12 ?_; refine zp 3 15 ?_; refine zt 1 13 ?_; refine zt 4 16 ?_
  refine one_ (i := 2) (N := some 14) #[Y, Y, Y, Y, Y, Z, Z, Z, Z, Z] rfl rfl (one_of HT_.out (by kernel_rfl)) (by decide) (fun K hK => ?_)
  refine goes_ Tryd.func46 (by kernel_rfl) rfl #[.int .i64 a0_1] (by rfl) rfl rfl zm ?_
  with_reducible refine (impl_dec.calls a0_1 t243 _ A2.out).mono ?_
  rintro e w8 ⟨rfl, hb⟩
  refine ⟨_, rfl, ?_⟩
  replace BK94 := zw BK94 hb
  replace HB := Aside0.mk (below_step zb hb)
  (try clear hb)
  (try clear hb2)
  (try clear hk)
  (try clear hi)
  refine hK.out _ _ ⟨(blk_cell BK94.out 0).trans rfl, (blk_cell BK94.out 1).trans rfl, (blk_cell BK94.out 2).trans rfl, (blk_cell BK94.out 3).trans rfl⟩ (fun hHeld => ?_)
  clear hK K
  refine norm_ (a' := ?_) ?_ ?_
  rotate_left
  ·show Act.put _ (some 14) _ = _
   simp only [Act.put, List.setIfInBounds_toArray, List.set_cons_zero, List.set_cons_succ, i64_w, i32_w]
   rfl
  refine one_ (i := 5) (N := some 17) #[Y, Y, Y, Y, Y, Y, Z, Z, Z, Z] rfl rfl (one_of HT_.out (by kernel_rfl)) (by decide) (fun K hK => ?_)
  refine goes_ Tryd.func46 (by kernel_rfl) rfl #[.int .i64 a0_0] (by rfl) rfl rfl zm ?_
  with_reducible refine (impl_dec.calls a0_0 t244 _ A3.out).mono ?_
  rintro e w9 ⟨rfl, hb⟩
  refine ⟨_, rfl, ?_⟩
  replace BK94 := zw BK94 hb
  replace HB := Aside0.mk (below_step zb hb)
  (try clear hb)
  (try clear hb2)
  (try clear hk)
  (try clear hi)
  refine hK.out _ _ ⟨(blk_cell BK94.out 0).trans rfl, (blk_cell BK94.out 1).trans rfl, (blk_cell BK94.out 2).trans rfl, (blk_cell BK94.out 3).trans rfl⟩ (fun hHeld => ?_)
  clear hK K
  refine norm_ (a' := ?_) ?_ ?_
  rotate_left
  ·show Act.put _ (some 17) _ = _
   simp only [Act.put, List.setIfInBounds_toArray, List.set_cons_zero, List.set_cons_succ, i64_w, i32_w]
   rfl
  refine one_ (i := 6) (N := some 18) #[Y, Y, Y, Y, Y, Y, Y, Z, Z, Z] rfl rfl (one_of HT_.out (by kernel_rfl)) (by decide) (fun K hK => ?_)
  refine Kd.R_lit_step Kd.string _ 9 ?hg (N := 18) ?hd (xs := ([(⟨#[99, 108, 111, 99, 107]⟩ : ByteArray), t243, t244] : List ByteArray)) (inner := [.string (⟨#[99, 108, 111, 99, 107]⟩ : ByteArray), .string t243, .string t244]) (ok := fun _ => True) (okp := fun _ => True) ?hr ?hp (fun _ hk => hk) trivial (Below.refl _ _) (Nat.le_refl _) (by simp) ?_; (case hd => rfl); (case hg => rfl); (case hr => first | (go_simp; done) | (go_simp; rfl)); (case hp => exact (Reps.one (show Kd.M Kd.string _ _ _ (⟨#[99, 108, 111, 99, 107]⟩ : ByteArray) [.string (⟨#[99, 108, 111, 99, 107]⟩ : ByteArray)] from rfl) (Reps.one (show Kd.M Kd.string _ _ _ t243 [.string t243] from rfl) (Reps.one (show Kd.M Kd.string _ _ _ t244 [.string t244] from rfl) (Reps.none _ _)))))
  intro v246 w10 ho11 hb hg_ hnew_
  clear hg_ hnew_
  (first | rw [← Ny245.out] at ho11 | (simp only [Int.reduceToNat] at ho11; rw [← Ny245.out] at ho11))
  have HO247 := Aside0.mk (Kd.R_lower ho11 (below_size zb))
  replace BK94 := zw BK94 hb
  replace HB := Aside0.mk (below_step zb hb)
  clear hb ho11
  obtain ⟨Ao12, co12, eo12⟩ := Kd.R_slice HO247.out
  (first | subst eo12 | (injection eo12 with f1_ f2_ f3_; have f4_ := f1_.symm; have f5_ := f3_.symm; clear f1_ f2_ f3_; subst f4_; subst f5_))
  refine hK.out _ _ ⟨(blk_cell BK94.out 0).trans rfl, (blk_cell BK94.out 1).trans rfl, (blk_cell BK94.out 2).trans rfl, (blk_cell BK94.out 3).trans rfl⟩ (fun hHeld => ?_)
  clear hK K
  refine norm_ (a' := ?_) ?_ ?_
  rotate_left
  ·show Act.put _ (some 18) _ = _
   simp only [Act.put, List.setIfInBounds_toArray, List.set_cons_zero, List.set_cons_succ, i64_w, i32_w]
   rfl
  refine one_ (i := 7) (N := some 19) #[Y, Y, Y, Y, Y, Y, Y, Y, Z, Z] rfl rfl (one_of HT_.out (by kernel_rfl)) (by decide) (fun K hK => ?_)
  refine goes_ Tryd.func45 (by kernel_rfl) rfl #[.slice Ao12 y245.length co12] (by rfl) rfl rfl zm ?_
  with_reducible refine (impl_joined.calls _ _ y245 t248 _ ?side1 ?side2 A4.out).mono ?_
  (case side1 => exact zc (Kd.R_reads' HO247.out).2.2)
  (case side2 => exact (Kd.R_reads' HO247.out).2.1)
  rintro e w13 ⟨rfl, hb⟩
  refine ⟨_, rfl, ?_⟩
  replace HO247 := Aside0.mk (Kd.R_below (zr HO247) hb)
  replace BK94 := zw BK94 hb
  replace HB := Aside0.mk (below_step zb hb)
  (try clear hb)
  (try clear hb2)
  (try clear hk)
  (try clear hi)
  refine hK.out _ _ ⟨(blk_cell BK94.out 0).trans rfl, (blk_cell BK94.out 1).trans rfl, (blk_cell BK94.out 2).trans rfl, (blk_cell BK94.out 3).trans rfl⟩ (fun hHeld => ?_)
  clear hK K
  refine norm_ (a' := ?_) ?_ ?_
  rotate_left
  ·show Act.put _ (some 19) _ = _
   simp only [Act.put, List.setIfInBounds_toArray, List.set_cons_zero, List.set_cons_succ, i64_w, i32_w]
   rfl
  refine zp 8 20 ?_; refine zp 9 3 ?_
  refine done_ (done_of HT_.out (by kernel_rfl)) ?_
  obtain ⟨z14_0, z14_1, z14_2, z14_3, j14_0, j14_1, j14_2, j14_3⟩ := Go.Proofs.YtldlnafakfigeaaDoor.Lv.blks4 BK94.out
  try go_wp2
  go_loopg [3, 24] k (fun kq v3 v24 w' => ∃ (x3_1 : ByteArray) (x24_1 : Int), v3 = .string x3_1 ∧ v24 = .int .i64 x24_1 ∧ Aside0 (impl_Engine_text.l0 kq x3_1 l0_2 (l0_2.length : Int) x24_1 a0_0 a0_1 l0_2 l0_3 = some r) ∧ Aside0 (kq ≤ k) ∧ Aside0 (w'.heap[gb94]? = some (.cells #[.int .i64 a0_0, .int .i64 a0_1, (.slice A0_2 l0_2.length c0_2), (.slice A0_3 l0_3.length c0_3)] 33 (0, 0))) ∧ Aside0 (Below w.heap.size w w'))
  case atStart => exact ⟨(t248 ++ (⟨#[10]⟩ : ByteArray)), (0), zs, zs, H', ⟨Nat.le_refl _⟩, ⟨zq BK94⟩, ⟨zb⟩⟩
  case round =>
   clear H'
   try clear c1
   try clear p2
   try clear c4
   try clear c5
   try clear c5b0
   try clear c5b1
   try clear c5b2
   try clear z14_0 z14_1 z14_2 z14_3 j14_0 j14_1 j14_2 j14_3
   obtain ⟨x3_1, x24_1, rfl, rfl, HA, HK1, BK94, HB⟩ := hrel
   cases gk with
   | zero => exact absurd HA.out (by simp [impl_Engine_text.l0])
   | succ k1 =>
    have H := HA.out
    clear HA
    simp only [impl_Engine_text.l0] at H
    by_cases c15 : x24_1 < (l0_2.length : Int)
    ·rw [if_pos c15] at H
     have c15b0 : decide (x24_1 < (l0_2.length : Int)) = true := decide_eq_true c15
     clear c15
     by_cases c16 : 0 ≤ x24_1
     ·rw [if_pos c16] at H
      have c16b0 : decide (0 ≤ x24_1) = true := decide_eq_true c16
      clear c16
      by_cases c17 : x24_1 < (l0_2.length : Int)
      ·rw [if_pos c17] at H
       have c17b0 : decide (x24_1 < (l0_2.length : Int)) = true := decide_eq_true c17
       clear c17
       replace H := Option.bind_eq_some_iff.mp H
       obtain ⟨t251, A180, H⟩ := H
       replace H : ((impl_dec.f ((rd_T45 l0_2 x24_1).f1)).bind fun t252 => ((impl_dec.f ((rd_T45 l0_2 x24_1).f2)).bind fun t253 => ((impl_dec.f ((rd_T45 l0_2 x24_1).f3)).bind fun t254 => ((impl_dec.f (((rd_T45 l0_2 x24_1).f4).length : Int)).bind fun t255 => ((impl_joined.f (([(⟨#[116, 120, 110]⟩ : ByteArray), t251, t252, t253, t254, t255] : List ByteArray))).bind fun t259 => (if t259.size + 1 ≤ 9223372036854775807 then (if x3_1.size + (t259 ++ (⟨#[10]⟩ : ByteArray)).size ≤ 9223372036854775807 then (impl_Engine_text.l0 k1 (x3_1 ++ (t259 ++ (⟨#[10]⟩ : ByteArray))) l0_2 (l0_2.length : Int) (wrap64 (x24_1 + 1)) a0_0 a0_1 l0_2 l0_3) else (none)) else (none))))))) = some r := H
       have A18 := Aside0.mk A180
       clear A180
       replace H := Option.bind_eq_some_iff.mp H
       obtain ⟨t252, A190, H⟩ := H
       replace H : ((impl_dec.f ((rd_T45 l0_2 x24_1).f2)).bind fun t253 => ((impl_dec.f ((rd_T45 l0_2 x24_1).f3)).bind fun t254 => ((impl_dec.f (((rd_T45 l0_2 x24_1).f4).length : Int)).bind fun t255 => ((impl_joined.f (([(⟨#[116, 120, 110]⟩ : ByteArray), t251, t252, t253, t254, t255] : List ByteArray))).bind fun t259 => (if t259.size + 1 ≤ 9223372036854775807 then (if x3_1.size + (t259 ++ (⟨#[10]⟩ : ByteArray)).size ≤ 9223372036854775807 then (impl_Engine_text.l0 k1 (x3_1 ++ (t259 ++ (⟨#[10]⟩ : ByteArray))) l0_2 (l0_2.length : Int) (wrap64 (x24_1 + 1)) a0_0 a0_1 l0_2 l0_3) else (none)) else (none)))))) = some r := H
       have A19 := Aside0.mk A190
       clear A190
       replace H := Option.bind_eq_some_iff.mp H
       obtain ⟨t253, A200, H⟩ := H
       replace H : ((impl_dec.f ((rd_T45 l0_2 x24_1).f3)).bind fun t254 => ((impl_dec.f (((rd_T45 l0_2 x24_1).f4).length : Int)).bind fun t255 => ((impl_joined.f (([(⟨#[116, 120, 110]⟩ : ByteArray), t251, t252, t253, t254, t255] : List ByteArray))).bind fun t259 => (if t259.size + 1 ≤ 9223372036854775807 then (if x3_1.size + (t259 ++ (⟨#[10]⟩ : ByteArray)).size ≤ 9223372036854775807 then (impl_Engine_text.l0 k1 (x3_1 ++ (t259 ++ (⟨#[10]⟩ : ByteArray))) l0_2 (l0_2.length : Int) (wrap64 (x24_1 + 1)) a0_0 a0_1 l0_2 l0_3) else (none)) else (none))))) = some r := H
       have A20 := Aside0.mk A200
       clear A200
       replace H := Option.bind_eq_some_iff.mp H
       obtain ⟨t254, A210, H⟩ := H
       replace H : ((impl_dec.f (((rd_T45 l0_2 x24_1).f4).length : Int)).bind fun t255 => ((impl_joined.f (([(⟨#[116, 120, 110]⟩ : ByteArray), t251, t252, t253, t254, t255] : List ByteArray))).bind fun t259 => (if t259.size + 1 ≤ 9223372036854775807 then (if x3_1.size + (t259 ++ (⟨#[10]⟩ : ByteArray)).size ≤ 9223372036854775807 then (impl_Engine_text.l0 k1 (x3_1 ++ (t259 ++ (⟨#[10]⟩ : ByteArray))) l0_2 (l0_2.length : Int) (wrap64 (x24_1 + 1)) a0_0 a0_1 l0_2 l0_3) else (none)) else (none)))) = some r := H
       have A21 := Aside0.mk A210
       clear A210
       replace H := Option.bind_eq_some_iff.mp H
       obtain ⟨t255, A220, H⟩ := H
       replace H : ((impl_joined.f (([(⟨#[116, 120, 110]⟩ : ByteArray), t251, t252, t253, t254, t255] : List ByteArray))).bind fun t259 => (if t259.size + 1 ≤ 9223372036854775807 then (if x3_1.size + (t259 ++ (⟨#[10]⟩ : ByteArray)).size ≤ 9223372036854775807 then (impl_Engine_text.l0 k1 (x3_1 ++ (t259 ++ (⟨#[10]⟩ : ByteArray))) l0_2 (l0_2.length : Int) (wrap64 (x24_1 + 1)) a0_0 a0_1 l0_2 l0_3) else (none)) else (none))) = some r := H
       have A22 := Aside0.mk A220
       clear A220
       obtain ⟨y256, hy256⟩ : ∃ y_ : List ByteArray, y_ = (([(⟨#[116, 120, 110]⟩ : ByteArray), t251, t252, t253, t254, t255] : List ByteArray)) := ⟨_, rfl⟩
       replace H : ((impl_joined.f y256).bind fun t259 => (if t259.size + 1 ≤ 9223372036854775807 then (if x3_1.size + (t259 ++ (⟨#[10]⟩ : ByteArray)).size ≤ 9223372036854775807 then (impl_Engine_text.l0 k1 (x3_1 ++ (t259 ++ (⟨#[10]⟩ : ByteArray))) l0_2 (l0_2.length : Int) (wrap64 (x24_1 + 1)) a0_0 a0_1 l0_2 l0_3) else (none)) else (none))) = some r := by first | (rw [hy256]; with_reducible exact H) | (have H2_ := (Option.bind_some _ _).symm.trans H; rw [hy256]; with_reducible exact H2_) | (have H2_ := (Option.bind_some _ _).symm.trans H; with_reducible exact H2_) | with_reducible exact H | (rw [hy256]; exact H) | exact H
       have Ny256 := Aside0.mk hy256
       clear hy256
       replace H := Option.bind_eq_some_iff.mp H
       obtain ⟨t259, A230, H⟩ := H
       replace H : (if t259.size + 1 ≤ 9223372036854775807 then (if x3_1.size + (t259 ++ (⟨#[10]⟩ : ByteArray)).size ≤ 9223372036854775807 then (impl_Engine_text.l0 k1 (x3_1 ++ (t259 ++ (⟨#[10]⟩ : ByteArray))) l0_2 (l0_2.length : Int) (wrap64 (x24_1 + 1)) a0_0 a0_1 l0_2 l0_3) else (none)) else (none)) = some r := H
       have A23 := Aside0.mk A230
       clear A230
       by_cases c24 : t259.size + 1 ≤ 9223372036854775807
       ·rw [if_pos c24] at H
        have c24b0 := eq_true c24
        have c24b1 : decide (t259.size + 1 ≤ 9223372036854775807) = true := decide_eq_true c24
        try have c24b2 : (9223372036854775807 < t259.size + 1) = False := eq_false (Nat.not_lt.2 c24)
        by_cases c25 : x3_1.size + (t259 ++ (⟨#[10]⟩ : ByteArray)).size ≤ 9223372036854775807
        ·rw [if_pos c25] at H
         have c25b0 := eq_true c25
         have c25b1 : decide (x3_1.size + (t259 ++ (⟨#[10]⟩ : ByteArray)).size ≤ 9223372036854775807) = true := decide_eq_true c25
         try have c25b2 : (9223372036854775807 < x3_1.size + (t259 ++ (⟨#[10]⟩ : ByteArray)).size) = False := eq_false (Nat.not_lt.2 c25)
         have c25b3 : (9223372036854775807 < x3_1.size + (t259.size + 1)) = False := eq_false (by have h_ := c25; simp only [ByteArray.size_append, show (⟨#[10]⟩ : ByteArray).size = 1 from rfl] at h_; omega)
         have H' := Aside0.mk H
         clear H
         have p249 : 0 ≤ (x24_1 : Int) := of_decide_eq_true za
         have q98 : x24_1 < (l0_2.length : Int) := of_decide_eq_true za
         obtain ⟨ad98, A98_4, c98_4, e249, hx98_0, hx98_1, hx98_2, hx98_3, hx98_4, hl98_4, hi249_4⟩ := at_T45 HR0_2.out x24_1 p249 q98
         cases e249
         replace hx98_0 := zx HB hx98_0
         replace hx98_1 := zx HB hx98_1
         replace hx98_2 := zx HB hx98_2
         replace hx98_3 := zx HB hx98_3
         replace hx98_4 := zx HB hx98_4
         have HR249_4 := Aside0.mk hi249_4
         have HC249_4 := Aside0.mk hl98_4
         clear hi249_4 hl98_4
         replace p249 := eq_true p249
         replace q98 := eq_true q98
         try go_wp2_with (first | ((with_reducible refine gate_dst (N := 5) rfl ?_); refine zE 5 45 #[.int .i64 0, .int .i64 0, .int .i64 0, .int .i64 0, .slice none 0 0] ?_; intro gb96 hg w26 hbox hb; have BK96 := Aside0.mk hbox; have GW96 := Aside0.mk (zh hg : w.heap.size ≤ gb96); have NB242_250 := zl BK94 hg; have NB250_242 := zL BK94 hg; have GE96 := GW96; replace BK94 := zw BK94 hb; replace HB := Aside0.mk (below_step zb hb); clear hb hbox hg; have hnb27 := NB250_242.out; have hnc27 := NB242_250.out; obtain ⟨z28_0, z28_1, z28_2, z28_3, z28_4, j28_0, j28_1, j28_2, j28_3, j28_4⟩ := Go.Proofs.YtldlnafakfigeaaDoor.Lv.blks5 BK96.out))
         have n0_ : Aside0 ((((((w26.setCell ⟨gb96, 0, none⟩ (.int .i64 ((rd_T45 l0_2 x24_1).f0))).setCell ⟨gb96, 1, none⟩ (.int .i64 ((rd_T45 l0_2 x24_1).f1))).setCell ⟨gb96, 2, none⟩ (.int .i64 ((rd_T45 l0_2 x24_1).f2))).setCell ⟨gb96, 3, none⟩ (.int .i64 ((rd_T45 l0_2 x24_1).f3))).setCell ⟨gb96, 4, none⟩ (.slice A98_4 ((rd_T45 l0_2 x24_1).f4).length c98_4)).heap[gb94]? = some (.cells #[.int .i64 a0_0, .int .i64 a0_1, .slice (some ad98) l0_2.length c0_2, .slice A0_3 l0_3.length c0_3] 33 (0, 0))) := ⟨by refine zQ ?_; refine blk_far ?_ NB242_250.out _; refine zQ ?_; refine blk_far ?_ NB242_250.out _; refine zQ ?_; refine blk_far ?_ NB242_250.out _; refine zQ ?_; refine blk_far ?_ NB242_250.out _; refine zQ ?_; refine blk_far ?_ NB242_250.out _; refine zQ ?_; exact BK94.out⟩
         have n1_ : Aside0 ((((((w26.setCell ⟨gb96, 0, none⟩ (.int .i64 ((rd_T45 l0_2 x24_1).f0))).setCell ⟨gb96, 1, none⟩ (.int .i64 ((rd_T45 l0_2 x24_1).f1))).setCell ⟨gb96, 2, none⟩ (.int .i64 ((rd_T45 l0_2 x24_1).f2))).setCell ⟨gb96, 3, none⟩ (.int .i64 ((rd_T45 l0_2 x24_1).f3))).setCell ⟨gb96, 4, none⟩ (.slice A98_4 ((rd_T45 l0_2 x24_1).f4).length c98_4)).heap[gb96]? = some (.cells #[.int .i64 ((rd_T45 l0_2 x24_1).f0), .int .i64 ((rd_T45 l0_2 x24_1).f1), .int .i64 ((rd_T45 l0_2 x24_1).f2), .int .i64 ((rd_T45 l0_2 x24_1).f3), .slice A98_4 ((rd_T45 l0_2 x24_1).f4).length c98_4] 45 (0, 0))) := ⟨by refine zQ ?_; refine blk_put (cs := #[.int .i64 ((rd_T45 l0_2 x24_1).f0), .int .i64 ((rd_T45 l0_2 x24_1).f1), .int .i64 ((rd_T45 l0_2 x24_1).f2), .int .i64 ((rd_T45 l0_2 x24_1).f3), .slice none 0 0]) ?_ 4 _ rfl; refine zQ ?_; refine blk_put (cs := #[.int .i64 ((rd_T45 l0_2 x24_1).f0), .int .i64 ((rd_T45 l0_2 x24_1).f1), .int .i64 ((rd_T45 l0_2 x24_1).f2), .int .i64 0, .slice none 0 0]) ?_ 3 _ rfl; refine zQ ?_; refine blk_put (cs := #[.int .i64 ((rd_T45 l0_2 x24_1).f0), .int .i64 ((rd_T45 l0_2 x24_1).f1), .int .i64 0, .int .i64 0, .slice none 0 0]) ?_ 2 _ rfl; refine zQ ?_; refine blk_put (cs := #[.int .i64 ((rd_T45 l0_2 x24_1).f0), .int .i64 0, .int .i64 0, .int .i64 0, .slice none 0 0]) ?_ 1 _ rfl; refine zQ ?_; refine blk_put (cs := #[.int .i64 0, .int .i64 0, .int .i64 0, .int .i64 0, .slice none 0 0]) ?_ 0 _ rfl; refine zQ ?_; exact BK96.out⟩
         have n2_ : Aside0 (Below w.heap.size w (((((w26.setCell ⟨gb96, 0, none⟩ (.int .i64 ((rd_T45 l0_2 x24_1).f0))).setCell ⟨gb96, 1, none⟩ (.int .i64 ((rd_T45 l0_2 x24_1).f1))).setCell ⟨gb96, 2, none⟩ (.int .i64 ((rd_T45 l0_2 x24_1).f2))).setCell ⟨gb96, 3, none⟩ (.int .i64 ((rd_T45 l0_2 x24_1).f3))).setCell ⟨gb96, 4, none⟩ (.slice A98_4 ((rd_T45 l0_2 x24_1).f4).length c98_4))) := ⟨zb⟩
         (try clear BK94)
         (try clear BK96)
         (try clear HB)
         generalize (((((w26.setCell ⟨gb96, 0, none⟩ (.int .i64 ((rd_T45 l0_2 x24_1).f0))).setCell ⟨gb96, 1, none⟩ (.int .i64 ((rd_T45 l0_2 x24_1).f1))).setCell ⟨gb96, 2, none⟩ (.int .i64 ((rd_T45 l0_2 x24_1).f2))).setCell ⟨gb96, 3, none⟩ (.int .i64 ((rd_T45 l0_2 x24_1).f3))).setCell ⟨gb96, 4, none⟩ (.slice A98_4 ((rd_T45 l0_2 x24_1).f4).length c98_4)) = w29 at n0_ n1_ n2_ ⊢
         have BK94 := n0_
         have BK96 := n1_
         have HB := n2_
         clear n0_ n1_ n2_
         replace BK94 := Aside0.mk (blk_drew BK94.out)
         replace BK96 := Aside0.mk (blk_drew BK96.out)
         replace HB := Aside0.mk (below_drew1 HB.out)
         refine start_ (n := 22) (S := fun w' => w'.cell? ⟨gb96, 0, none⟩ = some (.int .i64 ((rd_T45 l0_2 x24_1).f0)) ∧ w'.cell? ⟨gb96, 1, none⟩ = some (.int .i64 ((rd_T45 l0_2 x24_1).f1)) ∧ w'.cell? ⟨gb96, 2, none⟩ = some (.int .i64 ((rd_T45 l0_2 x24_1).f2)) ∧ w'.cell? ⟨gb96, 3, none⟩ = some (.int .i64 ((rd_T45 l0_2 x24_1).f3)) ∧ w'.cell? ⟨gb96, 4, none⟩ = some (.slice A98_4 ((rd_T45 l0_2 x24_1).f4).length c98_4)) (ds := []) #[Z, Z, Z, Z, Z, Z, Z, Z, Z, Z, Z, Z, Z, Z, Z, Z, Z, Z, Z, Z, Z, Z] (by kernel_rfl) rfl rfl ⟨(blk_cell BK96.out 0).trans rfl, (blk_cell BK96.out 1).trans rfl, (blk_cell BK96.out 2).trans rfl, (blk_cell BK96.out 3).trans rfl, (blk_cell BK96.out 4).trans rfl⟩ (fun hHeld => ?_); refine with_tabW impl_Engine_text.tab5 impl_Engine_text.bits5 (fun HT_ HW_ => ?_)
         generalize w29.drew = w30 at BK94 BK96 HB hHeld ⊢
         refine zp 0 28 ?_; refine zp 1 29 ?_; refine zp 4 32 ?_; refine zp 7 35 ?_; refine zp 10 38 ?_; refine zp 13 41 ?_; refine zt 2 30 ?_; refine zt 5 33 ?_; refine zt 8 36 ?_; refine zt 11 39 ?_; refine zt 14 42 ?_; refine zp 15 43 ?_
         refine one_ (i := 3) (N := some 31) #[Y, Y, Y, Y, Y, Y, Z, Y, Y, Z, Y, Y, Z, Y, Y, Y, Z, Z, Z, Z, Z, Z] rfl rfl (one_of HT_.out (by kernel_rfl)) (by decide) (fun K hK => ?_)
         refine goes_ Tryd.func46 (by kernel_rfl) rfl #[.int .i64 ((rd_T45 l0_2 x24_1).f0)] (by rfl) rfl rfl zm ?_
         with_reducible refine (impl_dec.calls ((rd_T45 l0_2 x24_1).f0) t251 _ A18.out).mono ?_
         rintro e w31 ⟨rfl, hb⟩
         refine ⟨_, rfl, ?_⟩
         replace BK94 := zw BK94 hb
         replace BK96 := zw BK96 hb
         replace HB := Aside0.mk (below_step zb hb)
         (try clear hb)
         (try clear hb2)
         (try clear hk)
         (try clear hi)
         refine hK.out _ _ ⟨(blk_cell BK96.out 0).trans rfl, (blk_cell BK96.out 1).trans rfl, (blk_cell BK96.out 2).trans rfl, (blk_cell BK96.out 3).trans rfl, (blk_cell BK96.out 4).trans rfl⟩ (fun hHeld => ?_)
         clear hK K
         refine norm_ (a' := ?_) ?_ ?_
         rotate_left
         ·show Act.put _ (some 31) _ = _
          simp only [Act.put, List.setIfInBounds_toArray, List.set_cons_zero, List.set_cons_succ, i64_w, i32_w]
          rfl
         refine one_ (i := 6) (N := some 34) #[Y, Y, Y, Y, Y, Y, Y, Y, Y, Z, Y, Y, Z, Y, Y, Y, Z, Z, Z, Z, Z, Z] rfl rfl (one_of HT_.out (by kernel_rfl)) (by decide) (fun K hK => ?_)
         refine goes_ Tryd.func46 (by kernel_rfl) rfl #[.int .i64 ((rd_T45 l0_2 x24_1).f1)] (by rfl) rfl rfl zm ?_
         with_reducible refine (impl_dec.calls ((rd_T45 l0_2 x24_1).f1) t252 _ A19.out).mono ?_
         rintro e w32 ⟨rfl, hb⟩
         refine ⟨_, rfl, ?_⟩
         replace BK94 := zw BK94 hb
         replace BK96 := zw BK96 hb
         replace HB := Aside0.mk (below_step zb hb)
         (try clear hb)
         (try clear hb2)
         (try clear hk)
         (try clear hi)
         refine hK.out _ _ ⟨(blk_cell BK96.out 0).trans rfl, (blk_cell BK96.out 1).trans rfl, (blk_cell BK96.out 2).trans rfl, (blk_cell BK96.out 3).trans rfl, (blk_cell BK96.out 4).trans rfl⟩ (fun hHeld => ?_)
         clear hK K
         refine norm_ (a' := ?_) ?_ ?_
         rotate_left
         ·show Act.put _ (some 34) _ = _
          simp only [Act.put, List.setIfInBounds_toArray, List.set_cons_zero, List.set_cons_succ, i64_w, i32_w]
          rfl
         refine one_ (i := 9) (N := some 37) #[Y, Y, Y, Y, Y, Y, Y, Y, Y, Y, Y, Y, Z, Y, Y, Y, Z, Z, Z, Z, Z, Z] rfl rfl (one_of HT_.out (by kernel_rfl)) (by decide) (fun K hK => ?_)
         refine goes_ Tryd.func46 (by kernel_rfl) rfl #[.int .i64 ((rd_T45 l0_2 x24_1).f2)] (by rfl) rfl rfl zm ?_
         with_reducible refine (impl_dec.calls ((rd_T45 l0_2 x24_1).f2) t253 _ A20.out).mono ?_
         rintro e w33 ⟨rfl, hb⟩
         refine ⟨_, rfl, ?_⟩
         replace BK94 := zw BK94 hb
         replace BK96 := zw BK96 hb
         replace HB := Aside0.mk (below_step zb hb)
         (try clear hb)
         (try clear hb2)
         (try clear hk)
         (try clear hi)
         refine hK.out _ _ ⟨(blk_cell BK96.out 0).trans rfl, (blk_cell BK96.out 1).trans rfl, (blk_cell BK96.out 2).trans rfl, (blk_cell BK96.out 3).trans rfl, (blk_cell BK96.out 4).trans rfl⟩ (fun hHeld => ?_)
         clear hK K
         refine norm_ (a' := ?_) ?_ ?_
         rotate_left
         ·show Act.put _ (some 37) _ = _
          simp only [Act.put, List.setIfInBounds_toArray, List.set_cons_zero, List.set_cons_succ, i64_w, i32_w]
          rfl
         refine one_ (i := 12) (N := some 40) #[Y, Y, Y, Y, Y, Y, Y, Y, Y, Y, Y, Y, Y, Y, Y, Y, Z, Z, Z, Z, Z, Z] rfl rfl (one_of HT_.out (by kernel_rfl)) (by decide) (fun K hK => ?_)
         refine goes_ Tryd.func46 (by kernel_rfl) rfl #[.int .i64 ((rd_T45 l0_2 x24_1).f3)] (by rfl) rfl rfl zm ?_
         with_reducible refine (impl_dec.calls ((rd_T45 l0_2 x24_1).f3) t254 _ A21.out).mono ?_
         rintro e w34 ⟨rfl, hb⟩
         refine ⟨_, rfl, ?_⟩
         replace BK94 := zw BK94 hb
         replace BK96 := zw BK96 hb
         replace HB := Aside0.mk (below_step zb hb)
         (try clear hb)
         (try clear hb2)
         (try clear hk)
         (try clear hi)
         refine hK.out _ _ ⟨(blk_cell BK96.out 0).trans rfl, (blk_cell BK96.out 1).trans rfl, (blk_cell BK96.out 2).trans rfl, (blk_cell BK96.out 3).trans rfl, (blk_cell BK96.out 4).trans rfl⟩ (fun hHeld => ?_)
         clear hK K
         refine norm_ (a' := ?_) ?_ ?_
         rotate_left
         ·show Act.put _ (some 40) _ = _
          simp only [Act.put, List.setIfInBounds_toArray, List.set_cons_zero, List.set_cons_succ, i64_w, i32_w]
          rfl
         refine one_ (i := 16) (N := some 44) #[Y, Y, Y, Y, Y, Y, Y, Y, Y, Y, Y, Y, Y, Y, Y, Y, Y, Z, Z, Z, Z, Z] rfl rfl (one_of HT_.out (by kernel_rfl)) (by decide) (fun K hK => ?_)
         refine goes_ Tryd.func46 (by kernel_rfl) rfl #[.int .i64 (((rd_T45 l0_2 x24_1).f4).length : Int)] (by rfl) rfl rfl zm ?_
         with_reducible refine (impl_dec.calls (((rd_T45 l0_2 x24_1).f4).length : Int) t255 _ A22.out).mono ?_
         rintro e w35 ⟨rfl, hb⟩
         refine ⟨_, rfl, ?_⟩
         replace BK94 := zw BK94 hb
         replace BK96 := zw BK96 hb
         replace HB := Aside0.mk (below_step zb hb)
         (try clear hb)
         (try clear hb2)
         (try clear hk)
         (try clear hi)
         refine hK.out _ _ ⟨(blk_cell BK96.out 0).trans rfl, (blk_cell BK96.out 1).trans rfl, (blk_cell BK96.out 2).trans rfl, (blk_cell BK96.out 3).trans rfl, (blk_cell BK96.out 4).trans rfl⟩ (fun hHeld => ?_)
         clear hK K
         refine norm_ (a' := ?_) ?_ ?_
         rotate_left
         ·show Act.put _ (some 44) _ = _
          simp only [Act.put, List.setIfInBounds_toArray, List.set_cons_zero, List.set_cons_succ, i64_w, i32_w]
          rfl
         refine one_ (i := 17) (N := some 45) #[Y, Y, Y, Y, Y, Y, Y, Y, Y, Y, Y, Y, Y, Y, Y, Y, Y, Y, Z, Z, Z, Z] rfl rfl (one_of HT_.out (by kernel_rfl)) (by decide) (fun K hK => ?_)
         refine Kd.R_lit_step Kd.string _ 9 ?hg (N := 45) ?hd (xs := ([(⟨#[116, 120, 110]⟩ : ByteArray), t251, t252, t253, t254, t255] : List ByteArray)) (inner := [.string (⟨#[116, 120, 110]⟩ : ByteArray), .string t251, .string t252, .string t253, .string t254, .string t255]) (ok := fun _ => True) (okp := fun _ => True) ?hr ?hp (fun _ hk => hk) trivial (Below.refl _ _) (Nat.le_refl _) (by simp) ?_; (case hd => rfl); (case hg => rfl); (case hr => first | (go_simp; done) | (go_simp; rfl)); (case hp => exact (Reps.one (show Kd.M Kd.string _ _ _ (⟨#[116, 120, 110]⟩ : ByteArray) [.string (⟨#[116, 120, 110]⟩ : ByteArray)] from rfl) (Reps.one (show Kd.M Kd.string _ _ _ t251 [.string t251] from rfl) (Reps.one (show Kd.M Kd.string _ _ _ t252 [.string t252] from rfl) (Reps.one (show Kd.M Kd.string _ _ _ t253 [.string t253] from rfl) (Reps.one (show Kd.M Kd.string _ _ _ t254 [.string t254] from rfl) (Reps.one (show Kd.M Kd.string _ _ _ t255 [.string t255] from rfl) (Reps.none _ _))))))))
         intro v257 w36 ho37 hb hg_ hnew_
         clear hg_ hnew_
         (first | rw [← Ny256.out] at ho37 | (simp only [Int.reduceToNat] at ho37; rw [← Ny256.out] at ho37))
         have HO258 := Aside0.mk (Kd.R_lower ho37 (below_size zb))
         replace BK94 := zw BK94 hb
         replace BK96 := zw BK96 hb
         replace HB := Aside0.mk (below_step zb hb)
         clear hb ho37
         obtain ⟨Ao38, co38, eo38⟩ := Kd.R_slice HO258.out
         (first | subst eo38 | (injection eo38 with f1_ f2_ f3_; have f4_ := f1_.symm; have f5_ := f3_.symm; clear f1_ f2_ f3_; subst f4_; subst f5_))
         refine hK.out _ _ ⟨(blk_cell BK96.out 0).trans rfl, (blk_cell BK96.out 1).trans rfl, (blk_cell BK96.out 2).trans rfl, (blk_cell BK96.out 3).trans rfl, (blk_cell BK96.out 4).trans rfl⟩ (fun hHeld => ?_)
         clear hK K
         refine norm_ (a' := ?_) ?_ ?_
         rotate_left
         ·show Act.put _ (some 45) _ = _
          simp only [Act.put, List.setIfInBounds_toArray, List.set_cons_zero, List.set_cons_succ, i64_w, i32_w]
          rfl
         refine one_ (i := 18) (N := some 46) #[Y, Y, Y, Y, Y, Y, Y, Y, Y, Y, Y, Y, Y, Y, Y, Y, Y, Y, Y, Z, Z, Z] rfl rfl (one_of HT_.out (by kernel_rfl)) (by decide) (fun K hK => ?_)
         refine goes_ Tryd.func45 (by kernel_rfl) rfl #[.slice Ao38 y256.length co38] (by rfl) rfl rfl zm ?_
         with_reducible refine (impl_joined.calls _ _ y256 t259 _ ?side1 ?side2 A23.out).mono ?_
         (case side1 => exact zc (Kd.R_reads' HO258.out).2.2)
         (case side2 => exact (Kd.R_reads' HO258.out).2.1)
         rintro e w39 ⟨rfl, hb⟩
         refine ⟨_, rfl, ?_⟩
         replace HO258 := Aside0.mk (Kd.R_below (zr HO258) hb)
         replace BK94 := zw BK94 hb
         replace BK96 := zw BK96 hb
         replace HB := Aside0.mk (below_step zb hb)
         (try clear hb)
         (try clear hb2)
         (try clear hk)
         (try clear hi)
         refine hK.out _ _ ⟨(blk_cell BK96.out 0).trans rfl, (blk_cell BK96.out 1).trans rfl, (blk_cell BK96.out 2).trans rfl, (blk_cell BK96.out 3).trans rfl, (blk_cell BK96.out 4).trans rfl⟩ (fun hHeld => ?_)
         clear hK K
         refine norm_ (a' := ?_) ?_ ?_
         rotate_left
         ·show Act.put _ (some 46) _ = _
          simp only [Act.put, List.setIfInBounds_toArray, List.set_cons_zero, List.set_cons_succ, i64_w, i32_w]
          rfl
         refine zp 19 47 ?_; refine zp 20 48 ?_; refine zp 21 3 ?_
         refine done_ (done_of HT_.out (by kernel_rfl)) ?_
         try go_wp2
         go_roundg k1
         case measure => have := HK1.out; omega
         case rel => exact ⟨(x3_1 ++ (t259 ++ (⟨#[10]⟩ : ByteArray))), (wrap64 (x24_1 + 1)), zs, zs, H', ⟨by have := HK1.out; omega⟩, ⟨zq BK94⟩, ⟨zb⟩⟩
        rw [if_neg c25] at H
        exact absurd H (by simp)
       rw [if_neg c24] at H
       exact absurd H (by simp)
      rw [if_neg c17] at H
      exact absurd H (by simp)
     rw [if_neg c16] at H
     exact absurd H (by simp)
    rw [if_neg c15] at H
    have c15b0 : decide (x24_1 < (l0_2.length : Int)) = false := decide_eq_false c15
    clear c15
    have H' := Aside0.mk H
    clear H
    obtain ⟨z40_0, z40_1, z40_2, z40_3, j40_0, j40_1, j40_2, j40_3⟩ := Go.Proofs.YtldlnafakfigeaaDoor.Lv.blks4 BK94.out
    go_wp2
    go_loopg [3, 53] k1 (fun kq v3 v53 w' => ∃ (x3_2 : ByteArray) (x53_2 : Int), v3 = .string x3_2 ∧ v53 = .int .i64 x53_2 ∧ Aside0 (impl_Engine_text.l1 kq x3_2 l0_3 (l0_3.length : Int) x53_2 = some r) ∧ Aside0 (kq ≤ k1) ∧ Aside0 (w'.heap[gb94]? = some (.cells #[.int .i64 a0_0, .int .i64 a0_1, (.slice A0_2 l0_2.length c0_2), (.slice A0_3 l0_3.length c0_3)] 33 (0, 0))) ∧ Aside0 (Below w.heap.size w w'))
    case atStart => exact ⟨(x3_1), (0), zs, zs, H', ⟨Nat.le_refl _⟩, ⟨zq BK94⟩, ⟨zb⟩⟩
    case round =>
     clear H'
     try clear c1
     try clear c2
     try clear p2
     try clear q2
     try clear hx2
     try clear c4
     try clear c5
     try clear c5b0
     try clear c5b1
     try clear c5b2
     try clear p6
     try clear c15
     try clear c15b0
     try clear c16
     try clear c16b0
     try clear c17
     try clear c17b0
     try clear c24
     try clear c24b0
     try clear c24b1
     try clear c24b2
     try clear p24
     try clear q24
     try clear hx24
     try clear c25
     try clear c25b0
     try clear c25b1
     try clear c25b2
     try clear c27
     try clear z14_0 z14_1 z14_2 z14_3
     try clear z28_0 z28_1 z28_2 z28_3 z28_4
     try clear z40_0 z40_1 z40_2 z40_3
     try clear j14_0 j14_1 j14_2 j14_3
     try clear j28_0 j28_1 j28_2 j28_3 j28_4
     try clear j40_0 j40_1 j40_2 j40_3
     try clear hx98_0
     try clear hx98_1
     try clear hx98_2
     try clear hx98_3
     try clear hx98_4
     try clear p2
     try clear p249
     try clear q98
     obtain ⟨x3_2, x53_2, rfl, rfl, HA, HK2, BK94, HB⟩ := hrel
     cases gk with
     | zero => exact absurd HA.out (by simp [impl_Engine_text.l1])
     | succ k2 =>
      have H := HA.out
      clear HA
      simp only [impl_Engine_text.l1] at H
      by_cases c41 : x53_2 < (l0_3.length : Int)
      ·rw [if_pos c41] at H
       have c41b0 : decide (x53_2 < (l0_3.length : Int)) = true := decide_eq_true c41
       clear c41
       by_cases c42 : 0 ≤ x53_2
       ·rw [if_pos c42] at H
        have c42b0 : decide (0 ≤ x53_2) = true := decide_eq_true c42
        clear c42
        by_cases c43 : x53_2 < (l0_3.length : Int)
        ·rw [if_pos c43] at H
         have c43b0 : decide (x53_2 < (l0_3.length : Int)) = true := decide_eq_true c43
         clear c43
         replace H := Option.bind_eq_some_iff.mp H
         obtain ⟨t262, A440, H⟩ := H
         replace H : (impl_Engine_text.l2 k2 x3_2 (([(⟨#[114, 111, 119]⟩ : ByteArray), t262] : List ByteArray)) l0_3 (l0_3.length : Int) x53_2 ((rd_T49 l0_3 x53_2).f1) (((rd_T49 l0_3 x53_2).f1).length : Int) 0) = some r := H
         have A44 := Aside0.mk A440
         clear A440
         obtain ⟨y263, hy263⟩ : ∃ y_ : List ByteArray, y_ = (([(⟨#[114, 111, 119]⟩ : ByteArray), t262] : List ByteArray)) := ⟨_, rfl⟩
         replace H : (impl_Engine_text.l2 k2 x3_2 y263 l0_3 (l0_3.length : Int) x53_2 ((rd_T49 l0_3 x53_2).f1) (((rd_T49 l0_3 x53_2).f1).length : Int) 0) = some r := by first | (rw [hy263]; with_reducible exact H) | (have H2_ := (Option.bind_some _ _).symm.trans H; rw [hy263]; with_reducible exact H2_) | (have H2_ := (Option.bind_some _ _).symm.trans H; with_reducible exact H2_) | with_reducible exact H | (rw [hy263]; exact H) | exact H
         have Ny263 := Aside0.mk hy263
         clear hy263
         have H' := Aside0.mk H
         clear H
         have p260 : 0 ≤ (x53_2 : Int) := of_decide_eq_true za
         have q260 : x53_2 < (l0_3.length : Int) := of_decide_eq_true za
         obtain ⟨ad260, A260_1, c260_1, e260, hx260_0, hx260_1, hl260_1, hi260_1⟩ := at_T49 HR0_3.out x53_2 p260 q260
         cases e260
         replace hx260_0 := zx HB hx260_0
         replace hx260_1 := zx HB hx260_1
         have HR260_1 := Aside0.mk hi260_1
         have HC260_1 := Aside0.mk hl260_1
         clear hi260_1 hl260_1
         replace p260 := eq_true p260
         replace q260 := eq_true q260
         go_wp2_with (first | ((with_reducible refine gate_dst (N := 7) rfl ?_); refine zE 7 49 #[.int .i64 0, .slice none 0 0] ?_; intro gb97 hg w45 hbox hb; have BK97 := Aside0.mk hbox; have GW97 := Aside0.mk (zh hg : w.heap.size ≤ gb97); have NB242_261 := zl BK94 hg; have NB261_242 := zL BK94 hg; have GE97 := GW97; replace BK94 := zw BK94 hb; replace HB := Aside0.mk (below_step zb hb); clear hb hbox hg; have hnb46 := NB261_242.out; have hnc46 := NB242_261.out; obtain ⟨z47_0, z47_1, j47_0, j47_1⟩ := Go.Proofs.YtldlnafakfigeaaDoor.Lv.blks2 BK97.out) | ((with_reducible refine gate_callee (f := 46) rfl ?_); refine zj 59 Tryd.func46 #[.int .i64 ((rd_T49 l0_3 x53_2).f0)] ?_; (with_reducible refine (impl_dec.calls ((rd_T49 l0_3 x53_2).f0) t262 _ A44.out).mono ?_); rintro e w48 ⟨rfl, hb⟩; refine ⟨_, rfl, ?_⟩; replace BK94 := Aside0.mk (blk_below (g := gb94) (o := .cells #[.int .i64 a0_0, .int .i64 a0_1, .slice A0_2 l0_2.length c0_2, .slice (some ad260) l0_3.length c0_3] 33 (0, 0)) (by refine zQ ?_; refine blk_far ?_ NB242_261.out _; refine zQ ?_; refine blk_far ?_ NB242_261.out _; refine zQ ?_; exact BK94.out) hb); replace BK97 := Aside0.mk (blk_below (g := gb97) (o := .cells #[.int .i64 ((rd_T49 l0_3 x53_2).f0), .slice A260_1 ((rd_T49 l0_3 x53_2).f1).length c260_1] 49 (0, 0)) (by refine zQ ?_; refine blk_put (cs := #[.int .i64 ((rd_T49 l0_3 x53_2).f0), .slice none 0 0]) ?_ 1 _ rfl; refine zQ ?_; refine blk_put (cs := #[.int .i64 0, .slice none 0 0]) ?_ 0 _ rfl; refine zQ ?_; exact BK97.out) hb); replace HB := Aside0.mk (below_step zb hb); (try clear hb); (try clear hb2); (try clear hk); (try clear hi)) | ((with_reducible refine gate_dst (N := 60) rfl ?_); refine Kd.R_lit Kd.string _ 9 ?hg (N := 60) ?hd (xs := ([(⟨#[114, 111, 119]⟩ : ByteArray), t262] : List ByteArray)) (inner := [.string (⟨#[114, 111, 119]⟩ : ByteArray), .string t262]) (ok := fun _ => True) (okp := fun _ => True) ?hr ?hp (fun _ hk => hk) trivial (Below.refl _ _) (Nat.le_refl _) (by simp) ?_; (case hd => rfl); (case hg => rfl); (case hr => first | (go_simp; done) | (go_simp; rfl)); (case hp => exact (Reps.one (show Kd.M Kd.string _ _ _ (⟨#[114, 111, 119]⟩ : ByteArray) [.string (⟨#[114, 111, 119]⟩ : ByteArray)] from rfl) (Reps.one (show Kd.M Kd.string _ _ _ t262 [.string t262] from rfl) (Reps.none _ _)))); intro v264 w49 ho50 hb hg_ hnew_; clear hg_ hnew_; (first | rw [← Ny263.out] at ho50 | (simp only [Int.reduceToNat] at ho50; rw [← Ny263.out] at ho50)); have HO265 := Aside0.mk (Kd.R_lower ho50 (below_size zb)); replace BK94 := zw BK94 hb; replace BK97 := zw BK97 hb; replace HB := Aside0.mk (below_step zb hb); clear hb ho50; obtain ⟨z51_0, z51_1, j51_0, j51_1⟩ := Go.Proofs.YtldlnafakfigeaaDoor.Lv.blks2 BK97.out))
         go_loopg [8, 64] k2 (fun kq v8 v64 w' => ∃ (x8_3 : List ByteArray) (x64_3 : Int), v64 = .int .i64 x64_3 ∧ Aside0 (impl_Engine_text.l2 kq x3_2 x8_3 l0_3 (l0_3.length : Int) x53_2 ((rd_T49 l0_3 x53_2).f1) (((rd_T49 l0_3 x53_2).f1).length : Int) x64_3 = some r) ∧ Aside0 (kq ≤ k2) ∧ Aside0 (Kd.R Kd.string 9 w' w.heap.size (fun _ => True) v8 x8_3) ∧ Aside0 (w'.heap[gb94]? = some (.cells #[.int .i64 a0_0, .int .i64 a0_1, (.slice A0_2 l0_2.length c0_2), (.slice (some ad260) l0_3.length c0_3)] 33 (0, 0))) ∧ Aside0 (w'.heap[gb97]? = some (.cells #[.int .i64 ((rd_T49 l0_3 x53_2).f0), (.slice A260_1 ((rd_T49 l0_3 x53_2).f1).length c260_1)] 49 (0, 0))) ∧ Aside0 (Below w.heap.size w w'))
         case atStart => exact ⟨(y263), (0), zs, H', ⟨Nat.le_refl _⟩, ⟨zr HO265⟩, ⟨zq BK94⟩, ⟨zq BK97⟩, ⟨zb⟩⟩
         case round =>
          clear H'
          try clear c1
          try clear c2
          try clear p2
          try clear q2
          try clear hx2
          try clear c4
          try clear c5
          try clear c5b0
          try clear c5b1
          try clear c5b2
          try clear p6
          try clear c15
          try clear c15b0
          try clear c16
          try clear c16b0
          try clear c17
          try clear c17b0
          try clear c24
          try clear c24b0
          try clear c24b1
          try clear c24b2
          try clear p24
          try clear q24
          try clear hx24
          try clear c25
          try clear c25b0
          try clear c25b1
          try clear c25b2
          try clear c26
          try clear p26
          try clear q26
          try clear hx26
          try clear c27
          try clear c41
          try clear c41b0
          try clear c42
          try clear c42b0
          try clear c43
          try clear c43b0
          try clear c45
          try clear c46
          try clear z14_0 z14_1 z14_2 z14_3
          try clear z28_0 z28_1 z28_2 z28_3 z28_4
          try clear z40_0 z40_1 z40_2 z40_3
          try clear z47_0 z47_1
          try clear z51_0 z51_1
          try clear j14_0 j14_1 j14_2 j14_3
          try clear j28_0 j28_1 j28_2 j28_3 j28_4
          try clear j40_0 j40_1 j40_2 j40_3
          try clear j47_0 j47_1
          try clear j51_0 j51_1
          try clear hx98_0
          try clear hx98_1
          try clear hx98_2
          try clear hx98_3
          try clear hx98_4
          try clear hx260_0
          try clear hx260_1
          try clear p2
          try clear p24
          try clear p249
          try clear p260
          try clear p6
          try clear q2
          try clear q24
          try clear q98
          try clear q260
          obtain ⟨x8_3, x64_3, rfl, HA, HK3, HO_8, BK94, BK97, HB⟩ := hrel
          cases gk with
          | zero => exact absurd HA.out (by simp [impl_Engine_text.l2])
          | succ k3 =>
           have H := HA.out
           clear HA
           simp only [impl_Engine_text.l2] at H
           by_cases c52 : x64_3 < (((rd_T49 l0_3 x53_2).f1).length : Int)
           ·rw [if_pos c52] at H
            have c52b0 : decide (x64_3 < (((rd_T49 l0_3 x53_2).f1).length : Int)) = true := decide_eq_true c52
            clear c52
            by_cases c53 : 0 ≤ x64_3
            ·rw [if_pos c53] at H
             have c53b0 : decide (0 ≤ x64_3) = true := decide_eq_true c53
             clear c53
             by_cases c54 : x64_3 < (((rd_T49 l0_3 x53_2).f1).length : Int)
             ·rw [if_pos c54] at H
              have c54b0 : decide (x64_3 < (((rd_T49 l0_3 x53_2).f1).length : Int)) = true := decide_eq_true c54
              clear c54
              replace H := Option.bind_eq_some_iff.mp H
              obtain ⟨t269, A550, H⟩ := H
              replace H : (if t269.size + 1 ≤ 9223372036854775807 then ((impl_dec.f ((rd_T51 ((rd_T49 l0_3 x53_2).f1) x64_3).f1)).bind fun t270 => (if (t269 ++ (⟨#[58]⟩ : ByteArray)).size + t270.size ≤ 9223372036854775807 then (if (rd_T51 ((rd_T49 l0_3 x53_2).f1) x64_3).f2 = true then (if ((t269 ++ (⟨#[58]⟩ : ByteArray)) ++ t270).size + 1 ≤ 9223372036854775807 then (if x8_3.length < 8796093022208 then (impl_Engine_text.l2 k3 x3_2 (x8_3 ++ [((t269 ++ (⟨#[58]⟩ : ByteArray)) ++ t270) ++ (⟨#[45]⟩ : ByteArray)]) l0_3 (l0_3.length : Int) x53_2 ((rd_T49 l0_3 x53_2).f1) (((rd_T49 l0_3 x53_2).f1).length : Int) (wrap64 (x64_3 + 1))) else (none)) else (none)) else ((impl_dec.f ((rd_T51 ((rd_T49 l0_3 x53_2).f1) x64_3).f3)).bind fun t274 => (if 1 + t274.size ≤ 9223372036854775807 then (if ((t269 ++ (⟨#[58]⟩ : ByteArray)) ++ t270).size + ((⟨#[61]⟩ : ByteArray) ++ t274).size ≤ 9223372036854775807 then (if x8_3.length < 8796093022208 then (impl_Engine_text.l2 k3 x3_2 (x8_3 ++ [((t269 ++ (⟨#[58]⟩ : ByteArray)) ++ t270) ++ ((⟨#[61]⟩ : ByteArray) ++ t274)]) l0_3 (l0_3.length : Int) x53_2 ((rd_T49 l0_3 x53_2).f1) (((rd_T49 l0_3 x53_2).f1).length : Int) (wrap64 (x64_3 + 1))) else (none)) else (none)) else (none)))) else (none))) else (none)) = some r := H
              have A55 := Aside0.mk A550
              clear A550
              by_cases c56 : t269.size + 1 ≤ 9223372036854775807
              ·rw [if_pos c56] at H
               have c56b0 := eq_true c56
               have c56b1 : decide (t269.size + 1 ≤ 9223372036854775807) = true := decide_eq_true c56
               try have c56b2 : (9223372036854775807 < t269.size + 1) = False := eq_false (Nat.not_lt.2 c56)
               replace H := Option.bind_eq_some_iff.mp H
               obtain ⟨t270, A570, H⟩ := H
               replace H : (if (t269 ++ (⟨#[58]⟩ : ByteArray)).size + t270.size ≤ 9223372036854775807 then (if (rd_T51 ((rd_T49 l0_3 x53_2).f1) x64_3).f2 = true then (if ((t269 ++ (⟨#[58]⟩ : ByteArray)) ++ t270).size + 1 ≤ 9223372036854775807 then (if x8_3.length < 8796093022208 then (impl_Engine_text.l2 k3 x3_2 (x8_3 ++ [((t269 ++ (⟨#[58]⟩ : ByteArray)) ++ t270) ++ (⟨#[45]⟩ : ByteArray)]) l0_3 (l0_3.length : Int) x53_2 ((rd_T49 l0_3 x53_2).f1) (((rd_T49 l0_3 x53_2).f1).length : Int) (wrap64 (x64_3 + 1))) else (none)) else (none)) else ((impl_dec.f ((rd_T51 ((rd_T49 l0_3 x53_2).f1) x64_3).f3)).bind fun t274 => (if 1 + t274.size ≤ 9223372036854775807 then (if ((t269 ++ (⟨#[58]⟩ : ByteArray)) ++ t270).size + ((⟨#[61]⟩ : ByteArray) ++ t274).size ≤ 9223372036854775807 then (if x8_3.length < 8796093022208 then (impl_Engine_text.l2 k3 x3_2 (x8_3 ++ [((t269 ++ (⟨#[58]⟩ : ByteArray)) ++ t270) ++ ((⟨#[61]⟩ : ByteArray) ++ t274)]) l0_3 (l0_3.length : Int) x53_2 ((rd_T49 l0_3 x53_2).f1) (((rd_T49 l0_3 x53_2).f1).length : Int) (wrap64 (x64_3 + 1))) else (none)) else (none)) else (none)))) else (none)) = some r := H
               have A57 := Aside0.mk A570
               clear A570
               by_cases c58 : (t269 ++ (⟨#[58]⟩ : ByteArray)).size + t270.size ≤ 9223372036854775807
               ·rw [if_pos c58] at H
                have c58b0 := eq_true c58
                have c58b1 : decide ((t269 ++ (⟨#[58]⟩ : ByteArray)).size + t270.size ≤ 9223372036854775807) = true := decide_eq_true c58
                try have c58b2 : (9223372036854775807 < (t269 ++ (⟨#[58]⟩ : ByteArray)).size + t270.size) = False := eq_false (Nat.not_lt.2 c58)
                have c58b3 : (9223372036854775807 < t269.size + 1 + t270.size) = False := eq_false (by have h_ := c58; simp only [ByteArray.size_append, show (⟨#[58]⟩ : ByteArray).size = 1 from rfl] at h_; omega)
                obtain ⟨bq59, hbq59⟩ : ∃ b_ : Bool, b_ = ((rd_T51 ((rd_T49 l0_3 x53_2).f1) x64_3).f2) := ⟨_, rfl⟩
                replace H : (if bq59 = true then (if ((t269 ++ (⟨#[58]⟩ : ByteArray)) ++ t270).size + 1 ≤ 9223372036854775807 then (if x8_3.length < 8796093022208 then (impl_Engine_text.l2 k3 x3_2 (x8_3 ++ [((t269 ++ (⟨#[58]⟩ : ByteArray)) ++ t270) ++ (⟨#[45]⟩ : ByteArray)]) l0_3 (l0_3.length : Int) x53_2 ((rd_T49 l0_3 x53_2).f1) (((rd_T49 l0_3 x53_2).f1).length : Int) (wrap64 (x64_3 + 1))) else (none)) else (none)) else ((impl_dec.f ((rd_T51 ((rd_T49 l0_3 x53_2).f1) x64_3).f3)).bind fun t274 => (if 1 + t274.size ≤ 9223372036854775807 then (if ((t269 ++ (⟨#[58]⟩ : ByteArray)) ++ t270).size + ((⟨#[61]⟩ : ByteArray) ++ t274).size ≤ 9223372036854775807 then (if x8_3.length < 8796093022208 then (impl_Engine_text.l2 k3 x3_2 (x8_3 ++ [((t269 ++ (⟨#[58]⟩ : ByteArray)) ++ t270) ++ ((⟨#[61]⟩ : ByteArray) ++ t274)]) l0_3 (l0_3.length : Int) x53_2 ((rd_T49 l0_3 x53_2).f1) (((rd_T49 l0_3 x53_2).f1).length : Int) (wrap64 (x64_3 + 1))) else (none)) else (none)) else (none)))) = some r := by rw [← hbq59] at H; exact H
                have Nbq59 := Aside0.mk hbq59
                clear hbq59
                by_cases c60 : bq59 = true
                ·subst c60
                 have H1 : (if ((t269 ++ (⟨#[58]⟩ : ByteArray)) ++ t270).size + 1 ≤ 9223372036854775807 then (if x8_3.length < 8796093022208 then (impl_Engine_text.l2 k3 x3_2 (x8_3 ++ [((t269 ++ (⟨#[58]⟩ : ByteArray)) ++ t270) ++ (⟨#[45]⟩ : ByteArray)]) l0_3 (l0_3.length : Int) x53_2 ((rd_T49 l0_3 x53_2).f1) (((rd_T49 l0_3 x53_2).f1).length : Int) (wrap64 (x64_3 + 1))) else (none)) else (none)) = some r := by rw [if_pos rfl] at H; exact H
                 clear H
                 have H := H1
                 clear H1
                 by_cases c61 : ((t269 ++ (⟨#[58]⟩ : ByteArray)) ++ t270).size + 1 ≤ 9223372036854775807
                 ·rw [if_pos c61] at H
                  have c61b0 := eq_true c61
                  have c61b1 : decide (((t269 ++ (⟨#[58]⟩ : ByteArray)) ++ t270).size + 1 ≤ 9223372036854775807) = true := decide_eq_true c61
                  try have c61b2 : (9223372036854775807 < ((t269 ++ (⟨#[58]⟩ : ByteArray)) ++ t270).size + 1) = False := eq_false (Nat.not_lt.2 c61)
                  have c61b3 : (9223372036854775807 < t269.size + 1 + t270.size + 1) = False := eq_false (by have h_ := c61; simp only [ByteArray.size_append, show (⟨#[58]⟩ : ByteArray).size = 1 from rfl] at h_; omega)
                  by_cases c62 : x8_3.length < 8796093022208
                  ·rw [if_pos c62] at H
                   have LMc62 := Aside0.mk c62
                   clear c62
                   obtain ⟨y271, hy271⟩ : ∃ y_ : List ByteArray, y_ = (x8_3 ++ [((t269 ++ (⟨#[58]⟩ : ByteArray)) ++ t270) ++ (⟨#[45]⟩ : ByteArray)]) := ⟨_, rfl⟩
                   replace H : (impl_Engine_text.l2 k3 x3_2 y271 l0_3 (l0_3.length : Int) x53_2 ((rd_T49 l0_3 x53_2).f1) (((rd_T49 l0_3 x53_2).f1).length : Int) (wrap64 (x64_3 + 1))) = some r := by first | (rw [hy271]; with_reducible exact H) | (have H2_ := (Option.bind_some _ _).symm.trans H; rw [hy271]; with_reducible exact H2_) | (have H2_ := (Option.bind_some _ _).symm.trans H; with_reducible exact H2_) | with_reducible exact H | (rw [hy271]; exact H) | exact H
                   have Ny271 := Aside0.mk hy271
                   clear hy271
                   have H' := Aside0.mk H
                   clear H
                   have p267 : 0 ≤ (x64_3 : Int) := of_decide_eq_true za
                   have q267 : x64_3 < (((rd_T49 l0_3 x53_2).f1).length : Int) := of_decide_eq_true za
                   obtain ⟨ad267, e267, hx267_0, hx267_1, hx267_2, hx267_3⟩ := at_T51 HR260_1.out x64_3 p267 q267
                   (try rw [← Nbq59.out] at hx267_2)
                   cases e267
                   replace hx267_0 := zx HB hx267_0
                   replace hx267_1 := zx HB hx267_1
                   replace hx267_2 := zx HB hx267_2
                   replace hx267_3 := zx HB hx267_3
                   replace p267 := eq_true p267
                   replace q267 := eq_true q267
                   try go_wp2_with (first | ((with_reducible refine gate_dst (N := 10) rfl ?_); refine zE 10 51 #[.int .i64 0, .int .i64 0, .bool false, .int .i64 0] ?_; intro gb95 hg w63 hbox hb; have BK95 := Aside0.mk hbox; have GW95 := Aside0.mk (zh hg : w.heap.size ≤ gb95); have NB242_268 := zl BK94 hg; have NB268_242 := zL BK94 hg; have NB261_268 := zl BK97 hg; have NB268_261 := zL BK97 hg; have GE95 := GW95; replace HO_8 := Aside0.mk (Kd.R_below (zr HO_8) hb); replace BK94 := zw BK94 hb; replace BK97 := zw BK97 hb; replace HB := Aside0.mk (below_step zb hb); clear hb hbox hg; have hnb64 := NB268_242.out; have hnc64 := NB242_268.out; have hnb65 := NB268_261.out; have hnc65 := NB261_268.out; obtain ⟨z66_0, z66_1, z66_2, z66_3, j66_0, j66_1, j66_2, j66_3⟩ := Go.Proofs.YtldlnafakfigeaaDoor.Lv.blks4 BK95.out))
                   have n0_ : Aside0 (Kd.R Kd.string 9 ((((w63.setCell ⟨gb95, 0, none⟩ (.int .i64 ((rd_T51 ((rd_T49 l0_3 x53_2).f1) x64_3).f0))).setCell ⟨gb95, 1, none⟩ (.int .i64 ((rd_T51 ((rd_T49 l0_3 x53_2).f1) x64_3).f1))).setCell ⟨gb95, 2, none⟩ (.bool true)).setCell ⟨gb95, 3, none⟩ (.int .i64 ((rd_T51 ((rd_T49 l0_3 x53_2).f1) x64_3).f3))) w.heap.size (fun _ => True) u8 x8_3) := ⟨by refine zR ?_; exact Kd.R_mono (Kd.R_far (p := ⟨gb95, 3, none⟩) (Kd.R_far (p := ⟨gb95, 2, none⟩) (Kd.R_far (p := ⟨gb95, 1, none⟩) (Kd.R_far (p := ⟨gb95, 0, none⟩) (Kd.R_types HO_8.out BK95.out (by decide)) (fun _ hk => hk.2) (.int .i64 ((rd_T51 ((rd_T49 l0_3 x53_2).f1) x64_3).f0))) (fun _ hk => hk.2) (.int .i64 ((rd_T51 ((rd_T49 l0_3 x53_2).f1) x64_3).f1))) (fun _ hk => hk.2) (.bool true)) (fun _ hk => hk.2) (.int .i64 ((rd_T51 ((rd_T49 l0_3 x53_2).f1) x64_3).f3))) (fun _ hk => trivial)⟩
                   have n1_ : Aside0 (((((w63.setCell ⟨gb95, 0, none⟩ (.int .i64 ((rd_T51 ((rd_T49 l0_3 x53_2).f1) x64_3).f0))).setCell ⟨gb95, 1, none⟩ (.int .i64 ((rd_T51 ((rd_T49 l0_3 x53_2).f1) x64_3).f1))).setCell ⟨gb95, 2, none⟩ (.bool true)).setCell ⟨gb95, 3, none⟩ (.int .i64 ((rd_T51 ((rd_T49 l0_3 x53_2).f1) x64_3).f3))).heap[gb94]? = some (.cells #[.int .i64 a0_0, .int .i64 a0_1, .slice A0_2 l0_2.length c0_2, .slice (some ad260) l0_3.length c0_3] 33 (0, 0))) := ⟨by refine zQ ?_; refine blk_far ?_ NB242_268.out _; refine zQ ?_; refine blk_far ?_ NB242_268.out _; refine zQ ?_; refine blk_far ?_ NB242_268.out _; refine zQ ?_; refine blk_far ?_ NB242_268.out _; refine zQ ?_; exact BK94.out⟩
                   have n2_ : Aside0 (((((w63.setCell ⟨gb95, 0, none⟩ (.int .i64 ((rd_T51 ((rd_T49 l0_3 x53_2).f1) x64_3).f0))).setCell ⟨gb95, 1, none⟩ (.int .i64 ((rd_T51 ((rd_T49 l0_3 x53_2).f1) x64_3).f1))).setCell ⟨gb95, 2, none⟩ (.bool true)).setCell ⟨gb95, 3, none⟩ (.int .i64 ((rd_T51 ((rd_T49 l0_3 x53_2).f1) x64_3).f3))).heap[gb97]? = some (.cells #[.int .i64 ((rd_T49 l0_3 x53_2).f0), .slice (some ad267) ((rd_T49 l0_3 x53_2).f1).length c260_1] 49 (0, 0))) := ⟨by refine zQ ?_; refine blk_far ?_ NB261_268.out _; refine zQ ?_; refine blk_far ?_ NB261_268.out _; refine zQ ?_; refine blk_far ?_ NB261_268.out _; refine zQ ?_; refine blk_far ?_ NB261_268.out _; refine zQ ?_; exact BK97.out⟩
                   have n3_ : Aside0 (((((w63.setCell ⟨gb95, 0, none⟩ (.int .i64 ((rd_T51 ((rd_T49 l0_3 x53_2).f1) x64_3).f0))).setCell ⟨gb95, 1, none⟩ (.int .i64 ((rd_T51 ((rd_T49 l0_3 x53_2).f1) x64_3).f1))).setCell ⟨gb95, 2, none⟩ (.bool true)).setCell ⟨gb95, 3, none⟩ (.int .i64 ((rd_T51 ((rd_T49 l0_3 x53_2).f1) x64_3).f3))).heap[gb95]? = some (.cells #[.int .i64 ((rd_T51 ((rd_T49 l0_3 x53_2).f1) x64_3).f0), .int .i64 ((rd_T51 ((rd_T49 l0_3 x53_2).f1) x64_3).f1), .bool true, .int .i64 ((rd_T51 ((rd_T49 l0_3 x53_2).f1) x64_3).f3)] 51 (0, 0))) := ⟨by refine zQ ?_; refine blk_put (cs := #[.int .i64 ((rd_T51 ((rd_T49 l0_3 x53_2).f1) x64_3).f0), .int .i64 ((rd_T51 ((rd_T49 l0_3 x53_2).f1) x64_3).f1), .bool true, .int .i64 0]) ?_ 3 _ rfl; refine zQ ?_; refine blk_put (cs := #[.int .i64 ((rd_T51 ((rd_T49 l0_3 x53_2).f1) x64_3).f0), .int .i64 ((rd_T51 ((rd_T49 l0_3 x53_2).f1) x64_3).f1), .bool false, .int .i64 0]) ?_ 2 _ rfl; refine zQ ?_; refine blk_put (cs := #[.int .i64 ((rd_T51 ((rd_T49 l0_3 x53_2).f1) x64_3).f0), .int .i64 0, .bool false, .int .i64 0]) ?_ 1 _ rfl; refine zQ ?_; refine blk_put (cs := #[.int .i64 0, .int .i64 0, .bool false, .int .i64 0]) ?_ 0 _ rfl; refine zQ ?_; exact BK95.out⟩
                   have n4_ : Aside0 (Below w.heap.size w ((((w63.setCell ⟨gb95, 0, none⟩ (.int .i64 ((rd_T51 ((rd_T49 l0_3 x53_2).f1) x64_3).f0))).setCell ⟨gb95, 1, none⟩ (.int .i64 ((rd_T51 ((rd_T49 l0_3 x53_2).f1) x64_3).f1))).setCell ⟨gb95, 2, none⟩ (.bool true)).setCell ⟨gb95, 3, none⟩ (.int .i64 ((rd_T51 ((rd_T49 l0_3 x53_2).f1) x64_3).f3)))) := ⟨zb⟩
                   (try clear HO_8)
                   (try clear BK94)
                   (try clear BK97)
                   (try clear BK95)
                   (try clear HB)
                   generalize ((((w63.setCell ⟨gb95, 0, none⟩ (.int .i64 ((rd_T51 ((rd_T49 l0_3 x53_2).f1) x64_3).f0))).setCell ⟨gb95, 1, none⟩ (.int .i64 ((rd_T51 ((rd_T49 l0_3 x53_2).f1) x64_3).f1))).setCell ⟨gb95, 2, none⟩ (.bool true)).setCell ⟨gb95, 3, none⟩ (.int .i64 ((rd_T51 ((rd_T49 l0_3 x53_2).f1) x64_3).f3))) = w67 at n0_ n1_ n2_ n3_ n4_ ⊢
                   have HO_8 := n0_
                   have BK94 := n1_
                   have BK97 := n2_
                   have BK95 := n3_
                   have HB := n4_
                   clear n0_ n1_ n2_ n3_ n4_
                   replace HO_8 := Aside0.mk (Kd.R_drew HO_8.out)
                   replace BK94 := Aside0.mk (blk_drew BK94.out)
                   replace BK97 := Aside0.mk (blk_drew BK97.out)
                   replace BK95 := Aside0.mk (blk_drew BK95.out)
                   replace HB := Aside0.mk (below_drew1 HB.out)
                   refine start_ (n := 9) (S := fun w' => w'.cell? ⟨gb95, 0, none⟩ = some (.int .i64 ((rd_T51 ((rd_T49 l0_3 x53_2).f1) x64_3).f0)) ∧ w'.cell? ⟨gb95, 1, none⟩ = some (.int .i64 ((rd_T51 ((rd_T49 l0_3 x53_2).f1) x64_3).f1)) ∧ w'.cell? ⟨gb95, 2, none⟩ = some (.bool true) ∧ w'.cell? ⟨gb95, 3, none⟩ = some (.int .i64 ((rd_T51 ((rd_T49 l0_3 x53_2).f1) x64_3).f3))) (ds := []) #[Z, Z, Z, Z, Z, Z, Z, Z, Z] (by kernel_rfl) rfl rfl ⟨(blk_cell BK95.out 0).trans rfl, (blk_cell BK95.out 1).trans rfl, (blk_cell BK95.out 2).trans rfl, (blk_cell BK95.out 3).trans rfl⟩ (fun hHeld => ?_); refine with_tabW impl_Engine_text.tab14 impl_Engine_text.bits14 (fun HT_ HW_ => ?_)
                   generalize w67.drew = w68 at HO_8 BK94 BK97 BK95 HB hHeld ⊢
                   refine zp 0 68 ?_; refine zp 4 72 ?_; refine zt 1 69 ?_; refine zt 5 73 ?_
                   refine one_ (i := 2) (N := some 70) #[Y, Y, Y, Z, Y, Y, Z, Z, Z] rfl rfl (one_of HT_.out (by kernel_rfl)) (by decide) (fun K hK => ?_)
                   refine goes_ Tryd.func46 (by kernel_rfl) rfl #[.int .i64 ((rd_T51 ((rd_T49 l0_3 x53_2).f1) x64_3).f0)] (by rfl) rfl rfl zm ?_
                   with_reducible refine (impl_dec.calls ((rd_T51 ((rd_T49 l0_3 x53_2).f1) x64_3).f0) t269 _ A55.out).mono ?_
                   rintro e w69 ⟨rfl, hb⟩
                   refine ⟨_, rfl, ?_⟩
                   replace HO_8 := Aside0.mk (Kd.R_below (zr HO_8) hb)
                   replace BK94 := zw BK94 hb
                   replace BK97 := zw BK97 hb
                   replace BK95 := zw BK95 hb
                   replace HB := Aside0.mk (below_step zb hb)
                   (try clear hb)
                   (try clear hb2)
                   (try clear hk)
                   (try clear hi)
                   refine hK.out _ _ ⟨(blk_cell BK95.out 0).trans rfl, (blk_cell BK95.out 1).trans rfl, (blk_cell BK95.out 2).trans rfl, (blk_cell BK95.out 3).trans rfl⟩ (fun hHeld => ?_)
                   clear hK K
                   refine norm_ (a' := ?_) ?_ ?_
                   rotate_left
                   ·show Act.put _ (some 70) _ = _
                    simp only [Act.put, List.setIfInBounds_toArray, List.set_cons_zero, List.set_cons_succ, i64_w, i32_w]
                    rfl
                   refine zp 3 71 ?_
                   refine one_ (i := 6) (N := some 74) #[Y, Y, Y, Y, Y, Y, Y, Z, Z] rfl rfl (one_of HT_.out (by kernel_rfl)) (by decide) (fun K hK => ?_)
                   refine goes_ Tryd.func46 (by kernel_rfl) rfl #[.int .i64 ((rd_T51 ((rd_T49 l0_3 x53_2).f1) x64_3).f1)] (by rfl) rfl rfl zm ?_
                   with_reducible refine (impl_dec.calls ((rd_T51 ((rd_T49 l0_3 x53_2).f1) x64_3).f1) t270 _ A57.out).mono ?_
                   rintro e w70 ⟨rfl, hb⟩
                   refine ⟨_, rfl, ?_⟩
                   replace HO_8 := Aside0.mk (Kd.R_below (zr HO_8) hb)
                   replace BK94 := zw BK94 hb
                   replace BK97 := zw BK97 hb
                   replace BK95 := zw BK95 hb
                   replace HB := Aside0.mk (below_step zb hb)
                   (try clear hb)
                   (try clear hb2)
                   (try clear hk)
                   (try clear hi)
                   refine hK.out _ _ ⟨(blk_cell BK95.out 0).trans rfl, (blk_cell BK95.out 1).trans rfl, (blk_cell BK95.out 2).trans rfl, (blk_cell BK95.out 3).trans rfl⟩ (fun hHeld => ?_)
                   clear hK K
                   refine norm_ (a' := ?_) ?_ ?_
                   rotate_left
                   ·show Act.put _ (some 74) _ = _
                    simp only [Act.put, List.setIfInBounds_toArray, List.set_cons_zero, List.set_cons_succ, i64_w, i32_w]
                    rfl
                   refine zp 7 75 ?_; refine zp 8 11 ?_
                   refine done_ (done_of HT_.out (by kernel_rfl)) ?_
                   obtain ⟨z71_0, z71_1, z71_2, z71_3, j71_0, j71_1, j71_2, j71_3⟩ := Go.Proofs.YtldlnafakfigeaaDoor.Lv.blks4 BK95.out
                   try go_wp2_with (first | ((with_reducible refine gate_builtin (b := .append) (xs := #[.tmp 86, .tmp 88]) rfl ?_); at_builtin; refine Kd.R_append Kd.string (w0 := w) w.heap.size rfl (.tmp 86) (.tmp 88) 87 9 (.string ⟨#[]⟩) 16 rfl Tryd.underlying87 info9 rfl (by decide) (by omega) u8 x8_3 (((t269 ++ (⟨#[58]⟩ : ByteArray)) ++ t270) ++ (⟨#[45]⟩ : ByteArray)) [.string (((t269 ++ (⟨#[58]⟩ : ByteArray)) ++ t270) ++ (⟨#[45]⟩ : ByteArray))] (fun _ => True) (fun _ => False) rfl rfl ?aP (fun _ hk => hk.elim) ?aF ?aO ?aB ?aS ?aL ?_; (case aP => exact rfl); (case aB => exact zb); (case aF => exact (fun _ _ => trivial)); (case aO => exact (zr HO_8)); (case aS => exact (below_size zb)); (case aL => have := LMc62.out; omega); intro v272 w72 ho hb hg hat; rw [← Ny271.out] at ho; have HO273 := Aside0.mk ho; replace BK94 := Aside0.mk (blk_grown (g := gb94) (o := .cells #[.int .i64 a0_0, .int .i64 a0_1, .slice A0_2 l0_2.length c0_2, .slice (some ad260) l0_3.length c0_3] 33 (0, 0)) zk hg (Kd.R_ne HO_8.out BK94.out (by decide))); replace BK97 := Aside0.mk (blk_grown (g := gb97) (o := .cells #[.int .i64 ((rd_T49 l0_3 x53_2).f0), .slice (some ad267) ((rd_T49 l0_3 x53_2).f1).length c260_1] 49 (0, 0)) zk hg (Kd.R_ne HO_8.out BK97.out (by decide))); replace BK95 := Aside0.mk (blk_grown (g := gb95) (o := .cells #[.int .i64 ((rd_T51 ((rd_T49 l0_3 x53_2).f1) x64_3).f0), .int .i64 ((rd_T51 ((rd_T49 l0_3 x53_2).f1) x64_3).f1), .bool true, .int .i64 ((rd_T51 ((rd_T49 l0_3 x53_2).f1) x64_3).f3)] 51 (0, 0)) zk hg (Kd.R_ne HO_8.out BK95.out (by decide))); replace HB := Aside0.mk hb; clear HO_8; clear ho hb hg hat))
                   go_roundg k3
                   case measure => have := HK1.out; have := HK2.out; have := HK3.out; omega
                   case rel => exact ⟨(y271), (wrap64 (x64_3 + 1)), zs, H', ⟨by have := HK1.out; have := HK2.out; have := HK3.out; omega⟩, ⟨zr HO273⟩, ⟨zq BK94⟩, ⟨zq BK97⟩, ⟨zb⟩⟩
                  rw [if_neg c62] at H
                  exact absurd H (by simp)
                 rw [if_neg c61] at H
                 exact absurd H (by simp)
                replace c60 := Bool.eq_false_iff.mpr c60
                subst c60
                have H1 : ((impl_dec.f ((rd_T51 ((rd_T49 l0_3 x53_2).f1) x64_3).f3)).bind fun t274 => (if 1 + t274.size ≤ 9223372036854775807 then (if ((t269 ++ (⟨#[58]⟩ : ByteArray)) ++ t270).size + ((⟨#[61]⟩ : ByteArray) ++ t274).size ≤ 9223372036854775807 then (if x8_3.length < 8796093022208 then (impl_Engine_text.l2 k3 x3_2 (x8_3 ++ [((t269 ++ (⟨#[58]⟩ : ByteArray)) ++ t270) ++ ((⟨#[61]⟩ : ByteArray) ++ t274)]) l0_3 (l0_3.length : Int) x53_2 ((rd_T49 l0_3 x53_2).f1) (((rd_T49 l0_3 x53_2).f1).length : Int) (wrap64 (x64_3 + 1))) else (none)) else (none)) else (none))) = some r := by rw [if_neg (show ¬ (false = true) by decide)] at H; exact H
                clear H
                have H := H1
                clear H1
                replace H := Option.bind_eq_some_iff.mp H
                obtain ⟨t274, A730, H⟩ := H
                replace H : (if 1 + t274.size ≤ 9223372036854775807 then (if ((t269 ++ (⟨#[58]⟩ : ByteArray)) ++ t270).size + ((⟨#[61]⟩ : ByteArray) ++ t274).size ≤ 9223372036854775807 then (if x8_3.length < 8796093022208 then (impl_Engine_text.l2 k3 x3_2 (x8_3 ++ [((t269 ++ (⟨#[58]⟩ : ByteArray)) ++ t270) ++ ((⟨#[61]⟩ : ByteArray) ++ t274)]) l0_3 (l0_3.length : Int) x53_2 ((rd_T49 l0_3 x53_2).f1) (((rd_T49 l0_3 x53_2).f1).length : Int) (wrap64 (x64_3 + 1))) else (none)) else (none)) else (none)) = some r := H
                have A73 := Aside0.mk A730
                clear A730
                by_cases c74 : 1 + t274.size ≤ 9223372036854775807
                ·rw [if_pos c74] at H
                 have c74b0 := eq_true c74
                 have c74b1 : decide (1 + t274.size ≤ 9223372036854775807) = true := decide_eq_true c74
                 try have c74b2 : (9223372036854775807 < 1 + t274.size) = False := eq_false (Nat.not_lt.2 c74)
                 by_cases c75 : ((t269 ++ (⟨#[58]⟩ : ByteArray)) ++ t270).size + ((⟨#[61]⟩ : ByteArray) ++ t274).size ≤ 9223372036854775807
                 ·rw [if_pos c75] at H
                  have c75b0 := eq_true c75
                  have c75b1 : decide (((t269 ++ (⟨#[58]⟩ : ByteArray)) ++ t270).size + ((⟨#[61]⟩ : ByteArray) ++ t274).size ≤ 9223372036854775807) = true := decide_eq_true c75
                  try have c75b2 : (9223372036854775807 < ((t269 ++ (⟨#[58]⟩ : ByteArray)) ++ t270).size + ((⟨#[61]⟩ : ByteArray) ++ t274).size) = False := eq_false (Nat.not_lt.2 c75)
                  have c75b3 : (9223372036854775807 < t269.size + 1 + t270.size + (1 + t274.size)) = False := eq_false (by have h_ := c75; simp only [ByteArray.size_append, show (⟨#[58]⟩ : ByteArray).size = 1 from rfl, show (⟨#[61]⟩ : ByteArray).size = 1 from rfl] at h_; omega)
                  by_cases c76 : x8_3.length < 8796093022208
                  ·rw [if_pos c76] at H
                   have LMc76 := Aside0.mk c76
                   clear c76
                   obtain ⟨y275, hy275⟩ : ∃ y_ : List ByteArray, y_ = (x8_3 ++ [((t269 ++ (⟨#[58]⟩ : ByteArray)) ++ t270) ++ ((⟨#[61]⟩ : ByteArray) ++ t274)]) := ⟨_, rfl⟩
                   replace H : (impl_Engine_text.l2 k3 x3_2 y275 l0_3 (l0_3.length : Int) x53_2 ((rd_T49 l0_3 x53_2).f1) (((rd_T49 l0_3 x53_2).f1).length : Int) (wrap64 (x64_3 + 1))) = some r := by first | (rw [hy275]; with_reducible exact H) | (have H2_ := (Option.bind_some _ _).symm.trans H; rw [hy275]; with_reducible exact H2_) | (have H2_ := (Option.bind_some _ _).symm.trans H; with_reducible exact H2_) | with_reducible exact H | (rw [hy275]; exact H) | exact H
                   have Ny275 := Aside0.mk hy275
                   clear hy275
                   have H' := Aside0.mk H
                   clear H
                   have p267 : 0 ≤ (x64_3 : Int) := of_decide_eq_true za
                   have q267 : x64_3 < (((rd_T49 l0_3 x53_2).f1).length : Int) := of_decide_eq_true za
                   obtain ⟨ad267, e267, hx267_0, hx267_1, hx267_2, hx267_3⟩ := at_T51 HR260_1.out x64_3 p267 q267
                   (try rw [← Nbq59.out] at hx267_2)
                   cases e267
                   replace hx267_0 := zx HB hx267_0
                   replace hx267_1 := zx HB hx267_1
                   replace hx267_2 := zx HB hx267_2
                   replace hx267_3 := zx HB hx267_3
                   replace p267 := eq_true p267
                   replace q267 := eq_true q267
                   try go_wp2_with (first | ((with_reducible refine gate_dst (N := 10) rfl ?_); refine zE 10 51 #[.int .i64 0, .int .i64 0, .bool false, .int .i64 0] ?_; intro gb95 hg w77 hbox hb; have BK95 := Aside0.mk hbox; have GW95 := Aside0.mk (zh hg : w.heap.size ≤ gb95); have NB242_268 := zl BK94 hg; have NB268_242 := zL BK94 hg; have NB261_268 := zl BK97 hg; have NB268_261 := zL BK97 hg; have GE95 := GW95; replace HO_8 := Aside0.mk (Kd.R_below (zr HO_8) hb); replace BK94 := zw BK94 hb; replace BK97 := zw BK97 hb; replace HB := Aside0.mk (below_step zb hb); clear hb hbox hg; have hnb78 := NB268_242.out; have hnc78 := NB242_268.out; have hnb79 := NB268_261.out; have hnc79 := NB261_268.out; obtain ⟨z80_0, z80_1, z80_2, z80_3, j80_0, j80_1, j80_2, j80_3⟩ := Go.Proofs.YtldlnafakfigeaaDoor.Lv.blks4 BK95.out))
                   have n0_ : Aside0 (Kd.R Kd.string 9 ((((w77.setCell ⟨gb95, 0, none⟩ (.int .i64 ((rd_T51 ((rd_T49 l0_3 x53_2).f1) x64_3).f0))).setCell ⟨gb95, 1, none⟩ (.int .i64 ((rd_T51 ((rd_T49 l0_3 x53_2).f1) x64_3).f1))).setCell ⟨gb95, 2, none⟩ (.bool false)).setCell ⟨gb95, 3, none⟩ (.int .i64 ((rd_T51 ((rd_T49 l0_3 x53_2).f1) x64_3).f3))) w.heap.size (fun _ => True) u8 x8_3) := ⟨by refine zR ?_; exact Kd.R_mono (Kd.R_far (p := ⟨gb95, 3, none⟩) (Kd.R_far (p := ⟨gb95, 2, none⟩) (Kd.R_far (p := ⟨gb95, 1, none⟩) (Kd.R_far (p := ⟨gb95, 0, none⟩) (Kd.R_types HO_8.out BK95.out (by decide)) (fun _ hk => hk.2) (.int .i64 ((rd_T51 ((rd_T49 l0_3 x53_2).f1) x64_3).f0))) (fun _ hk => hk.2) (.int .i64 ((rd_T51 ((rd_T49 l0_3 x53_2).f1) x64_3).f1))) (fun _ hk => hk.2) (.bool false)) (fun _ hk => hk.2) (.int .i64 ((rd_T51 ((rd_T49 l0_3 x53_2).f1) x64_3).f3))) (fun _ hk => trivial)⟩
                   have n1_ : Aside0 (((((w77.setCell ⟨gb95, 0, none⟩ (.int .i64 ((rd_T51 ((rd_T49 l0_3 x53_2).f1) x64_3).f0))).setCell ⟨gb95, 1, none⟩ (.int .i64 ((rd_T51 ((rd_T49 l0_3 x53_2).f1) x64_3).f1))).setCell ⟨gb95, 2, none⟩ (.bool false)).setCell ⟨gb95, 3, none⟩ (.int .i64 ((rd_T51 ((rd_T49 l0_3 x53_2).f1) x64_3).f3))).heap[gb94]? = some (.cells #[.int .i64 a0_0, .int .i64 a0_1, .slice A0_2 l0_2.length c0_2, .slice (some ad260) l0_3.length c0_3] 33 (0, 0))) := ⟨by refine zQ ?_; refine blk_far ?_ NB242_268.out _; refine zQ ?_; refine blk_far ?_ NB242_268.out _; refine zQ ?_; refine blk_far ?_ NB242_268.out _; refine zQ ?_; refine blk_far ?_ NB242_268.out _; refine zQ ?_; exact BK94.out⟩
                   have n2_ : Aside0 (((((w77.setCell ⟨gb95, 0, none⟩ (.int .i64 ((rd_T51 ((rd_T49 l0_3 x53_2).f1) x64_3).f0))).setCell ⟨gb95, 1, none⟩ (.int .i64 ((rd_T51 ((rd_T49 l0_3 x53_2).f1) x64_3).f1))).setCell ⟨gb95, 2, none⟩ (.bool false)).setCell ⟨gb95, 3, none⟩ (.int .i64 ((rd_T51 ((rd_T49 l0_3 x53_2).f1) x64_3).f3))).heap[gb97]? = some (.cells #[.int .i64 ((rd_T49 l0_3 x53_2).f0), .slice (some ad267) ((rd_T49 l0_3 x53_2).f1).length c260_1] 49 (0, 0))) := ⟨by refine zQ ?_; refine blk_far ?_ NB261_268.out _; refine zQ ?_; refine blk_far ?_ NB261_268.out _; refine zQ ?_; refine blk_far ?_ NB261_268.out _; refine zQ ?_; refine blk_far ?_ NB261_268.out _; refine zQ ?_; exact BK97.out⟩
                   have n3_ : Aside0 (((((w77.setCell ⟨gb95, 0, none⟩ (.int .i64 ((rd_T51 ((rd_T49 l0_3 x53_2).f1) x64_3).f0))).setCell ⟨gb95, 1, none⟩ (.int .i64 ((rd_T51 ((rd_T49 l0_3 x53_2).f1) x64_3).f1))).setCell ⟨gb95, 2, none⟩ (.bool false)).setCell ⟨gb95, 3, none⟩ (.int .i64 ((rd_T51 ((rd_T49 l0_3 x53_2).f1) x64_3).f3))).heap[gb95]? = some (.cells #[.int .i64 ((rd_T51 ((rd_T49 l0_3 x53_2).f1) x64_3).f0), .int .i64 ((rd_T51 ((rd_T49 l0_3 x53_2).f1) x64_3).f1), .bool false, .int .i64 ((rd_T51 ((rd_T49 l0_3 x53_2).f1) x64_3).f3)] 51 (0, 0))) := ⟨by refine zQ ?_; refine blk_put (cs := #[.int .i64 ((rd_T51 ((rd_T49 l0_3 x53_2).f1) x64_3).f0), .int .i64 ((rd_T51 ((rd_T49 l0_3 x53_2).f1) x64_3).f1), .bool false, .int .i64 0]) ?_ 3 _ rfl; refine zQ ?_; refine blk_put (cs := #[.int .i64 ((rd_T51 ((rd_T49 l0_3 x53_2).f1) x64_3).f0), .int .i64 ((rd_T51 ((rd_T49 l0_3 x53_2).f1) x64_3).f1), .bool false, .int .i64 0]) ?_ 2 _ rfl; refine zQ ?_; refine blk_put (cs := #[.int .i64 ((rd_T51 ((rd_T49 l0_3 x53_2).f1) x64_3).f0), .int .i64 0, .bool false, .int .i64 0]) ?_ 1 _ rfl; refine zQ ?_; refine blk_put (cs := #[.int .i64 0, .int .i64 0, .bool false, .int .i64 0]) ?_ 0 _ rfl; refine zQ ?_; exact BK95.out⟩
                   have n4_ : Aside0 (Below w.heap.size w ((((w77.setCell ⟨gb95, 0, none⟩ (.int .i64 ((rd_T51 ((rd_T49 l0_3 x53_2).f1) x64_3).f0))).setCell ⟨gb95, 1, none⟩ (.int .i64 ((rd_T51 ((rd_T49 l0_3 x53_2).f1) x64_3).f1))).setCell ⟨gb95, 2, none⟩ (.bool false)).setCell ⟨gb95, 3, none⟩ (.int .i64 ((rd_T51 ((rd_T49 l0_3 x53_2).f1) x64_3).f3)))) := ⟨zb⟩
                   (try clear HO_8)
                   (try clear BK94)
                   (try clear BK97)
                   (try clear BK95)
                   (try clear HB)
                   generalize ((((w77.setCell ⟨gb95, 0, none⟩ (.int .i64 ((rd_T51 ((rd_T49 l0_3 x53_2).f1) x64_3).f0))).setCell ⟨gb95, 1, none⟩ (.int .i64 ((rd_T51 ((rd_T49 l0_3 x53_2).f1) x64_3).f1))).setCell ⟨gb95, 2, none⟩ (.bool false)).setCell ⟨gb95, 3, none⟩ (.int .i64 ((rd_T51 ((rd_T49 l0_3 x53_2).f1) x64_3).f3))) = w81 at n0_ n1_ n2_ n3_ n4_ ⊢
                   have HO_8 := n0_
                   have BK94 := n1_
                   have BK97 := n2_
                   have BK95 := n3_
                   have HB := n4_
                   clear n0_ n1_ n2_ n3_ n4_
                   replace HO_8 := Aside0.mk (Kd.R_drew HO_8.out)
                   replace BK94 := Aside0.mk (blk_drew BK94.out)
                   replace BK97 := Aside0.mk (blk_drew BK97.out)
                   replace BK95 := Aside0.mk (blk_drew BK95.out)
                   replace HB := Aside0.mk (below_drew1 HB.out)
                   refine start_ (n := 9) (S := fun w' => w'.cell? ⟨gb95, 0, none⟩ = some (.int .i64 ((rd_T51 ((rd_T49 l0_3 x53_2).f1) x64_3).f0)) ∧ w'.cell? ⟨gb95, 1, none⟩ = some (.int .i64 ((rd_T51 ((rd_T49 l0_3 x53_2).f1) x64_3).f1)) ∧ w'.cell? ⟨gb95, 2, none⟩ = some (.bool false) ∧ w'.cell? ⟨gb95, 3, none⟩ = some (.int .i64 ((rd_T51 ((rd_T49 l0_3 x53_2).f1) x64_3).f3))) (ds := []) #[Z, Z, Z, Z, Z, Z, Z, Z, Z] (by kernel_rfl) rfl rfl ⟨(blk_cell BK95.out 0).trans rfl, (blk_cell BK95.out 1).trans rfl, (blk_cell BK95.out 2).trans rfl, (blk_cell BK95.out 3).trans rfl⟩ (fun hHeld => ?_); refine with_tabW impl_Engine_text.tab14 impl_Engine_text.bits14 (fun HT_ HW_ => ?_)
                   generalize w81.drew = w82 at HO_8 BK94 BK97 BK95 HB hHeld ⊢
                   refine zp 0 68 ?_; refine zp 4 72 ?_; refine zt 1 69 ?_; refine zt 5 73 ?_
                   refine one_ (i := 2) (N := some 70) #[Y, Y, Y, Z, Y, Y, Z, Z, Z] rfl rfl (one_of HT_.out (by kernel_rfl)) (by decide) (fun K hK => ?_)
                   refine goes_ Tryd.func46 (by kernel_rfl) rfl #[.int .i64 ((rd_T51 ((rd_T49 l0_3 x53_2).f1) x64_3).f0)] (by rfl) rfl rfl zm ?_
                   with_reducible refine (impl_dec.calls ((rd_T51 ((rd_T49 l0_3 x53_2).f1) x64_3).f0) t269 _ A55.out).mono ?_
                   rintro e w83 ⟨rfl, hb⟩
                   refine ⟨_, rfl, ?_⟩
                   replace HO_8 := Aside0.mk (Kd.R_below (zr HO_8) hb)
                   replace BK94 := zw BK94 hb
                   replace BK97 := zw BK97 hb
                   replace BK95 := zw BK95 hb
                   replace HB := Aside0.mk (below_step zb hb)
                   (try clear hb)
                   (try clear hb2)
                   (try clear hk)
                   (try clear hi)
                   refine hK.out _ _ ⟨(blk_cell BK95.out 0).trans rfl, (blk_cell BK95.out 1).trans rfl, (blk_cell BK95.out 2).trans rfl, (blk_cell BK95.out 3).trans rfl⟩ (fun hHeld => ?_)
                   clear hK K
                   refine norm_ (a' := ?_) ?_ ?_
                   rotate_left
                   ·show Act.put _ (some 70) _ = _
                    simp only [Act.put, List.setIfInBounds_toArray, List.set_cons_zero, List.set_cons_succ, i64_w, i32_w]
                    rfl
                   refine zp 3 71 ?_
                   refine one_ (i := 6) (N := some 74) #[Y, Y, Y, Y, Y, Y, Y, Z, Z] rfl rfl (one_of HT_.out (by kernel_rfl)) (by decide) (fun K hK => ?_)
                   refine goes_ Tryd.func46 (by kernel_rfl) rfl #[.int .i64 ((rd_T51 ((rd_T49 l0_3 x53_2).f1) x64_3).f1)] (by rfl) rfl rfl zm ?_
                   with_reducible refine (impl_dec.calls ((rd_T51 ((rd_T49 l0_3 x53_2).f1) x64_3).f1) t270 _ A57.out).mono ?_
                   rintro e w84 ⟨rfl, hb⟩
                   refine ⟨_, rfl, ?_⟩
                   replace HO_8 := Aside0.mk (Kd.R_below (zr HO_8) hb)
                   replace BK94 := zw BK94 hb
                   replace BK97 := zw BK97 hb
                   replace BK95 := zw BK95 hb
                   replace HB := Aside0.mk (below_step zb hb)
                   (try clear hb)
                   (try clear hb2)
                   (try clear hk)
                   (try clear hi)
                   refine hK.out _ _ ⟨(blk_cell BK95.out 0).trans rfl, (blk_cell BK95.out 1).trans rfl, (blk_cell BK95.out 2).trans rfl, (blk_cell BK95.out 3).trans rfl⟩ (fun hHeld => ?_)
                   clear hK K
                   refine norm_ (a' := ?_) ?_ ?_
                   rotate_left
                   ·show Act.put _ (some 74) _ = _
                    simp only [Act.put, List.setIfInBounds_toArray, List.set_cons_zero, List.set_cons_succ, i64_w, i32_w]
                    rfl
                   refine zp 7 75 ?_; refine zp 8 11 ?_
                   refine done_ (done_of HT_.out (by kernel_rfl)) ?_
                   obtain ⟨z85_0, z85_1, z85_2, z85_3, j85_0, j85_1, j85_2, j85_3⟩ := Go.Proofs.YtldlnafakfigeaaDoor.Lv.blks4 BK95.out
                   try go_wp2_with (first | ((with_reducible refine gate_callee (f := 46) rfl ?_); refine zj 83 Tryd.func46 #[.int .i64 ((rd_T51 ((rd_T49 l0_3 x53_2).f1) x64_3).f3)] ?_; (with_reducible refine (impl_dec.calls ((rd_T51 ((rd_T49 l0_3 x53_2).f1) x64_3).f3) t274 _ A73.out).mono ?_); rintro e w86 ⟨rfl, hb⟩; refine ⟨_, rfl, ?_⟩; replace HO_8 := Aside0.mk (Kd.R_below (zr HO_8) hb); replace BK94 := zw BK94 hb; replace BK97 := zw BK97 hb; replace BK95 := zw BK95 hb; replace HB := Aside0.mk (below_step zb hb); (try clear hb); (try clear hb2); (try clear hk); (try clear hi)) | ((with_reducible refine gate_builtin (b := .append) (xs := #[.tmp 86, .tmp 88]) rfl ?_); at_builtin; refine Kd.R_append Kd.string (w0 := w) w.heap.size rfl (.tmp 86) (.tmp 88) 87 9 (.string ⟨#[]⟩) 16 rfl Tryd.underlying87 info9 rfl (by decide) (by omega) u8 x8_3 (((t269 ++ (⟨#[58]⟩ : ByteArray)) ++ t270) ++ ((⟨#[61]⟩ : ByteArray) ++ t274)) [.string (((t269 ++ (⟨#[58]⟩ : ByteArray)) ++ t270) ++ ((⟨#[61]⟩ : ByteArray) ++ t274))] (fun _ => True) (fun _ => False) rfl rfl ?aP (fun _ hk => hk.elim) ?aF ?aO ?aB ?aS ?aL ?_; (case aP => exact rfl); (case aB => exact zb); (case aF => exact (fun _ _ => trivial)); (case aO => exact (zr HO_8)); (case aS => exact (below_size zb)); (case aL => have := LMc76.out; omega); intro v276 w87 ho hb hg hat; rw [← Ny275.out] at ho; have HO277 := Aside0.mk ho; replace BK94 := Aside0.mk (blk_grown (g := gb94) (o := .cells #[.int .i64 a0_0, .int .i64 a0_1, .slice A0_2 l0_2.length c0_2, .slice (some ad260) l0_3.length c0_3] 33 (0, 0)) zk hg (Kd.R_ne HO_8.out BK94.out (by decide))); replace BK97 := Aside0.mk (blk_grown (g := gb97) (o := .cells #[.int .i64 ((rd_T49 l0_3 x53_2).f0), .slice (some ad267) ((rd_T49 l0_3 x53_2).f1).length c260_1] 49 (0, 0)) zk hg (Kd.R_ne HO_8.out BK97.out (by decide))); replace BK95 := Aside0.mk (blk_grown (g := gb95) (o := .cells #[.int .i64 ((rd_T51 ((rd_T49 l0_3 x53_2).f1) x64_3).f0), .int .i64 ((rd_T51 ((rd_T49 l0_3 x53_2).f1) x64_3).f1), .bool false, .int .i64 ((rd_T51 ((rd_T49 l0_3 x53_2).f1) x64_3).f3)] 51 (0, 0)) zk hg (Kd.R_ne HO_8.out BK95.out (by decide))); replace HB := Aside0.mk hb; clear HO_8; clear ho hb hg hat))
                   go_roundg k3
                   case measure => have := HK1.out; have := HK2.out; have := HK3.out; omega
                   case rel => exact ⟨(y275), (wrap64 (x64_3 + 1)), zs, H', ⟨by have := HK1.out; have := HK2.out; have := HK3.out; omega⟩, ⟨zr HO277⟩, ⟨zq BK94⟩, ⟨zq BK97⟩, ⟨zb⟩⟩
                  rw [if_neg c76] at H
                  exact absurd H (by simp)
                 rw [if_neg c75] at H
                 exact absurd H (by simp)
                rw [if_neg c74] at H
                exact absurd H (by simp)
               rw [if_neg c58] at H
               exact absurd H (by simp)
              rw [if_neg c56] at H
              exact absurd H (by simp)
             rw [if_neg c54] at H
             exact absurd H (by simp)
            rw [if_neg c53] at H
            exact absurd H (by simp)
           rw [if_neg c52] at H
           have c52b0 : decide (x64_3 < (((rd_T49 l0_3 x53_2).f1).length : Int)) = false := decide_eq_false c52
           clear c52
           replace H := Option.bind_eq_some_iff.mp H
           obtain ⟨t266, A880, H⟩ := H
           replace H : (if t266.size + 1 ≤ 9223372036854775807 then (if x3_2.size + (t266 ++ (⟨#[10]⟩ : ByteArray)).size ≤ 9223372036854775807 then (impl_Engine_text.l1 k3 (x3_2 ++ (t266 ++ (⟨#[10]⟩ : ByteArray))) l0_3 (l0_3.length : Int) (wrap64 (x53_2 + 1))) else (none)) else (none)) = some r := H
           have A88 := Aside0.mk A880
           clear A880
           by_cases c89 : t266.size + 1 ≤ 9223372036854775807
           ·rw [if_pos c89] at H
            have c89b0 := eq_true c89
            have c89b1 : decide (t266.size + 1 ≤ 9223372036854775807) = true := decide_eq_true c89
            try have c89b2 : (9223372036854775807 < t266.size + 1) = False := eq_false (Nat.not_lt.2 c89)
            by_cases c90 : x3_2.size + (t266 ++ (⟨#[10]⟩ : ByteArray)).size ≤ 9223372036854775807
            ·rw [if_pos c90] at H
             have c90b0 := eq_true c90
             have c90b1 : decide (x3_2.size + (t266 ++ (⟨#[10]⟩ : ByteArray)).size ≤ 9223372036854775807) = true := decide_eq_true c90
             try have c90b2 : (9223372036854775807 < x3_2.size + (t266 ++ (⟨#[10]⟩ : ByteArray)).size) = False := eq_false (Nat.not_lt.2 c90)
             have c90b3 : (9223372036854775807 < x3_2.size + (t266.size + 1)) = False := eq_false (by have h_ := c90; simp only [ByteArray.size_append, show (⟨#[10]⟩ : ByteArray).size = 1 from rfl] at h_; omega)
             have H' := Aside0.mk H
             clear H
             obtain ⟨Ao91, co91, eo91⟩ := Kd.R_slice HO_8.out
             subst eo91
             go_wp2_with (first | ((with_reducible refine gate_callee (f := 45) rfl ?_); refine zj 93 Tryd.func45 #[.slice Ao91 x8_3.length co91] ?_; (with_reducible refine (impl_joined.calls _ _ x8_3 t266 _ ?side1 ?side2 A88.out).mono ?_); (case side1 => exact zc (Kd.R_reads' HO_8.out).2.2); (case side2 => exact (Kd.R_reads' HO_8.out).2.1); rintro e w92 ⟨rfl, hb⟩; refine ⟨_, rfl, ?_⟩; replace HO_8 := Aside0.mk (Kd.R_below (zr HO_8) hb); replace BK94 := zw BK94 hb; replace BK97 := zw BK97 hb; replace HB := Aside0.mk (below_step zb hb); (try clear hb); (try clear hb2); (try clear hk); (try clear hi)))
             go_roundg k3
             case measure => have := HK1.out; have := HK2.out; have := HK3.out; omega
             case rel => exact ⟨(x3_2 ++ (t266 ++ (⟨#[10]⟩ : ByteArray))), (wrap64 (x53_2 + 1)), zs, zs, H', ⟨by have := HK1.out; have := HK2.out; have := HK3.out; omega⟩, ⟨zq BK94⟩, ⟨zb⟩⟩
            rw [if_neg c90] at H
            exact absurd H (by simp)
           rw [if_neg c89] at H
           exact absurd H (by simp)
        rw [if_neg c43] at H
        exact absurd H (by simp)
       rw [if_neg c42] at H
       exact absurd H (by simp)
      rw [if_neg c41] at H
      have c41b0 : decide (x53_2 < (l0_3.length : Int)) = false := decide_eq_false c41
      clear c41
      obtain rfl := Option.some.inj H
      go_wp2
      go_ret
      exact ⟨ze, zb⟩
 rw [if_neg c5] at H
 exact absurd H (by simp)
end Go.Proofs.YtldlnafakfigeaaDoor.P
