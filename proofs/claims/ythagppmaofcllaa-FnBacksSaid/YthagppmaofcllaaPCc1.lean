import Derived.Test.YthagppmaofcllaaZz
import Derived.Test.YthagppmaofcllaaP0
import Derived.Test.YthagppmaofcllaaPCbc0
import Derived.Test.YthagppmaofcllaaPCbc1
import Derived.Test.YthagppmaofcllaaPCc0
import Derived.Test.YthagppmaofcllaaPCcg0
import Derived.Test.YthagppmaofcllaaPDcg0
import Derived.Test.YthagppmaofcllaaPDm0
import Derived.Test.YthagppmaofcllaaPDm1
import Derived.Test.YthagppmaofcllaaWGuard
import Derived.Test.YthagppmaofcllaaWRepsOne
import Derived.Test.YthagppmaofcllaaWTab
import Derived.Test.YthagppmaofcllaaLv
namespace Go.Proofs.Ythagppmaofcllaa.P
open Go.RowKit Go.Proofs.YthagppmaofcllaaW.PrintWords Go.Proofs.YthagppmaofcllaaW.PrintLast Go.Proofs.YthagppmaofcllaaW.PrintMore
attribute [local go_sem] max2_int min2_int max_two min_two max_three min_three max_four min_four   -- for this text's walks alone
set_option linter.unusedVariables false
set_option linter.unusedSimpArgs false
def laws_FnBacks.T6 : Bool × List (List Nat × List Nat) := (true, [([], []), ([], []), ([0, 1], [0, 1]), ([2], [2]), ([], []), ([4], [4]), ([3, 5], [3, 5]), ([6, 2, 0, 1, 2, 3, 4, 5, 6], [6])])
def laws_FnBacks.B6 : List Nat := [0, 0, 3, 7, 0, 16, 63, 127]
theorem laws_FnBacks.tab6 : rtab .any (opsOf Try.f5 6) = laws_FnBacks.T6 := by kernel_rfl
theorem laws_FnBacks.bits6 : waitsOk laws_FnBacks.T6.2 laws_FnBacks.B6 = true := by kernel_rfl
def laws_FnBacks.T11 : Bool × List (List Nat × List Nat) := (true, [([], []), ([0], [0]), ([1], [1]), ([2], [2]), ([3], [3]), ([4, 3], [3, 4]), ([3], [3]), ([5, 6, 3], [3, 5, 6]), ([3, 7], [3, 7]), ([8, 3], [8]), ([9], [9]), ([10, 9], [9, 10]), ([11, 9, 9], [9, 11]), ([12], [12]), ([13, 12], [12, 13]), ([12], [12]), ([14, 15, 12], [12, 14, 15]), ([16, 12], [12, 16]), ([12], [12]), ([18, 12], [12, 18]), ([12], [12]), ([20, 12], [12, 20]), ([19, 21, 12], [12, 19, 21]), ([22, 12], [12, 22]), ([17, 23, 12], [12, 17, 23]), ([12, 24, 9], [9, 12, 24]), ([9, 25], [9, 25])])
def laws_FnBacks.B11 : List Nat := [0, 1, 3, 7, 15, 31, 15, 127, 255, 511, 1023, 2047, 4095, 8191, 16383, 8191, 65535, 131071, 8191, 270335, 8191, 1056767, 3940351, 8134655, 16777215, 33554431, 67108863]
theorem laws_FnBacks.tab11 : rtab .any (opsOf Try.f5 11) = laws_FnBacks.T11 := by kernel_rfl
theorem laws_FnBacks.bits11 : waitsOk laws_FnBacks.T11.2 laws_FnBacks.B11 = true := by kernel_rfl
def laws_FnBacks.T14 : Bool × List (List Nat × List Nat) := (true, [([], []), ([], []), ([0, 1], [0, 1]), ([2], [2]), ([3], [3]), ([], []), ([5], [5]), ([6], [6]), ([4, 7], [4, 7]), ([8, 2, 0, 1, 2, 3, 4, 5, 6, 7, 8], [8])])
def laws_FnBacks.B14 : List Nat := [0, 0, 3, 7, 15, 0, 32, 96, 255, 511]
theorem laws_FnBacks.tab14 : rtab .any (opsOf Try.f5 14) = laws_FnBacks.T14 := by kernel_rfl
theorem laws_FnBacks.bits14 : waitsOk laws_FnBacks.T14.2 laws_FnBacks.B14 = true := by kernel_rfl
def laws_FnBacks.T16 : Bool × List (List Nat × List Nat) := (true, [([], []), ([], []), ([0, 1], [0, 1]), ([], []), ([], []), ([4], [4]), ([], []), ([6], [6]), ([], []), ([8], [8]), ([], []), ([10], [10]), ([], []), ([12], [12]), ([], []), ([14], [14]), ([15], [15]), ([16], [16]), ([3, 5, 7, 9, 11, 13, 17], [3, 5, 7, 9, 11, 13, 17]), ([18], [18]), ([2, 19, 2], [2, 19]), ([20, 20, 0, 1, 2, 3, 4, 5, 6, 7, 8, 9, 10, 11, 12, 13, 14, 15, 16, 17, 18, 19, 20], [20])])
def laws_FnBacks.B16 : List Nat := [0, 0, 3, 0, 0, 16, 0, 64, 0, 256, 0, 1024, 0, 4096, 0, 16384, 49152, 114688, 262136, 524280, 1048575, 2097151]
theorem laws_FnBacks.tab16 : rtab .any (opsOf Try.f5 16) = laws_FnBacks.T16 := by kernel_rfl
theorem laws_FnBacks.bits16 : waitsOk laws_FnBacks.T16.2 laws_FnBacks.B16 = true := by kernel_rfl
def laws_FnBacks.T18 : Bool × List (List Nat × List Nat) := (true, [([], []), ([0], [0]), ([1], [1]), ([2], [2]), ([3], [3]), ([4, 3], [3, 4]), ([3], [3]), ([6, 3], [3, 6]), ([7, 3], [3, 7]), ([5, 8, 3, 3], [3, 5, 8]), ([3, 9], [3, 9]), ([10, 9, 0, 1, 2, 3, 4, 5, 6, 7, 8, 9, 10], [10])])
def laws_FnBacks.B18 : List Nat := [0, 1, 3, 7, 15, 31, 15, 79, 207, 511, 1023, 2047]
theorem laws_FnBacks.tab18 : rtab .any (opsOf Try.f5 18) = laws_FnBacks.T18 := by kernel_rfl
theorem laws_FnBacks.bits18 : waitsOk laws_FnBacks.T18.2 laws_FnBacks.B18 = true := by kernel_rfl
theorem laws_FnBacks.fld35_0 (x0 x1 : Value) (w : World) : (Instr.field 35 (.agg #[x0, x1]) 0).run Try.prog w = .ok x0 w := by
 simp [Instr.field, run_underlying Try.underlying35, run_underlying Try.underlying2, part, isAgg, asAgg]
attribute [local go_sem] laws_FnBacks.fld35_0
theorem laws_FnBacks.fld35_1 (x0 x1 : Value) (w : World) : (Instr.field 35 (.agg #[x0, x1]) 1).run Try.prog w = .ok x1 w := by
 simp [Instr.field, run_underlying Try.underlying35, run_underlying Try.underlying33, part, isAgg, asAgg]
attribute [local go_sem] laws_FnBacks.fld35_1
theorem zA {α β : Type} {d : Kd α} {d' : Kd β} {e e' base base' : Nat} {w : World} {ok ok' : Nat → Prop} {p : Addr} {n c : Nat} {xs : List α} {v : Value} {ys : List β} (a : Aside0 (Kd.R d e w base ok (.slice (some p) n c) xs)) (b : Aside0 (Kd.R d' e' w base' ok' v ys)) (ht : ∀ q, q ∈ e :: d.E → q ≠ e' := by decide) : some p.block ≠ v.ownBlock := ((Kd.R_apartR a.out b.out ht).1 _ rfl).2
set_option maxHeartbeats 8000000 in
set_option maxRecDepth 100000 in
theorem laws_FnBacks.calls (k : Nat) (A0 : Option Addr) (c0 : Nat) (l0 : List Int) (w : World) (hr0 : Kd.C (Kd.int .u8) w A0 l0.length l0) (hc0 : l0.length ≤ c0) (h : laws_FnBacks.f k l0 = some true) :
 Calls Try.prog 5 #[.slice A0 l0.length c0] w fun e w' => e = .returned (.bool true) ∧ Below w.heap.size w w' := by
 have hu35 := Try.underlying35
 have hu48 := Try.underlying48
 have HR0 := Aside0.mk hr0
 have HC0 := Aside0.mk hc0
 clear hr0 hc0
 have HB := Aside0.mk (Below.refl w.heap.size w)
 have H : ((laws_lwBig.f l0).bind fun t634 => (if t634 = true then (some true) else ((spec_DrawChainBack.f k l0).bind fun bt92 => ((impl_ChainBack.f k bt92.1 bt92.2).bind fun bt98 => (if bt98.1 = 0 then (laws_FnBacks.l0 k bt92.1 bt92.2 0 bt98.1 bt98.2) else ((spec_ChainBack.f k bt92.1 bt92.2).bind fun bt644 => (some (bt644.1 == bt98.1)))))))) = some true := h
 clear h
 replace H := Option.bind_eq_some_iff.mp H
 obtain ⟨t634, A20, H⟩ := H
 replace H : (if t634 = true then (some true) else ((spec_DrawChainBack.f k l0).bind fun bt92 => ((impl_ChainBack.f k bt92.1 bt92.2).bind fun bt98 => (if bt98.1 = 0 then (laws_FnBacks.l0 k bt92.1 bt92.2 0 bt98.1 bt98.2) else ((spec_ChainBack.f k bt92.1 bt92.2).bind fun bt644 => (some (bt644.1 == bt98.1))))))) = some true := H
 have A2 := Aside0.mk A20
 clear A20
 by_cases c3 : t634 = true
 ·subst c3
  have H1 : (some true) = some true := by rw [if_pos rfl] at H; first | done | exact H
  clear H
  have H := H1
  clear H1
  go_enter Try.func5, Try.ntmps5
  go_wp2_with (first | ((with_reducible refine gate_callee (f := 25) rfl ?_); refine goesL_ (some 12) rfl rfl Try.func25 (by kernel_rfl) rfl #[.slice A0 l0.length c0] rfl zm ?_; (with_reducible refine (laws_lwBig.calls _ _ l0 true _ ?side1 ?side2 A2.out).mono ?_); (case side1 => repeat (first | exact HR0.out | (with_reducible first | refine Kd.C_alloc ?_ _ | refine Kd.C_drewN ?_ _ | refine Kd.C_drew ?_))); (case side2 => exact HC0.out); rintro e w' ⟨rfl, ⟨nd, rfl⟩⟩; refine ⟨_, rfl, ?_⟩))
  go_ret
  exact ⟨ze, zb⟩
 replace c3 := Bool.eq_false_iff.mpr c3
 subst c3
 have H1 : ((spec_DrawChainBack.f k l0).bind fun bt92 => ((impl_ChainBack.f k bt92.1 bt92.2).bind fun bt98 => (if bt98.1 = 0 then (laws_FnBacks.l0 k bt92.1 bt92.2 0 bt98.1 bt98.2) else ((spec_ChainBack.f k bt92.1 bt92.2).bind fun bt644 => (some (bt644.1 == bt98.1)))))) = some true := by rw [if_neg (show ¬ (false = true) by decide)] at H; first | done | exact H
 clear H
 have H := H1
 clear H1
 replace H := Option.bind_eq_some_iff.mp H
 obtain ⟨⟨t92, t636⟩, A40, H⟩ := H
 replace H : ((impl_ChainBack.f k t92 t636).bind fun bt98 => (if bt98.1 = 0 then (laws_FnBacks.l0 k t92 t636 0 bt98.1 bt98.2) else ((spec_ChainBack.f k t92 t636).bind fun bt644 => (some (bt644.1 == bt98.1))))) = some true := H
 have A4 := Aside0.mk A40
 clear A40
 replace H := Option.bind_eq_some_iff.mp H
 obtain ⟨⟨t98, t97⟩, A50, H⟩ := H
 replace H : (if t98 = 0 then (laws_FnBacks.l0 k t92 t636 0 t98 t97) else ((spec_ChainBack.f k t92 t636).bind fun bt644 => (some (bt644.1 == t98)))) = some true := H
 have A5 := Aside0.mk A50
 clear A50
 by_cases c6 : t98 = 0
 ·rw [if_pos c6] at H
  have c6b0 : (t98 == 0) = true := beq_iff_eq.mpr c6
  have c6b1 : (t98 != 0) = false := bne_eq_false_iff_eq.mpr c6
  clear c6
  have H' := Aside0.mk H
  clear H
  go_enter Try.func5, Try.ntmps5
  go_wp2_with (first | ((with_reducible refine gate_callee (f := 25) rfl ?_); refine goesL_ (some 12) rfl rfl Try.func25 (by kernel_rfl) rfl #[.slice A0 l0.length c0] rfl zm ?_; (with_reducible refine (laws_lwBig.calls _ _ l0 false _ ?side1 ?side2 A2.out).mono ?_); (case side1 => repeat (first | exact HR0.out | (with_reducible first | refine Kd.C_alloc ?_ _ | refine Kd.C_drewN ?_ _ | refine Kd.C_drew ?_))); (case side2 => exact HC0.out); rintro e w' ⟨rfl, ⟨nd, rfl⟩⟩; refine ⟨_, rfl, ?_⟩) | ((with_reducible refine gate_callee (f := 26) rfl ?_); refine goesL_ (some 15) rfl rfl Try.func26 (by kernel_rfl) rfl #[.slice A0 l0.length c0] rfl zm ?_; (with_reducible refine (spec_DrawChainBack.calls k _ _ l0 t92 t636 _ ?side1 ?side2 A4.out).mono ?_); (case side1 => repeat (first | exact HR0.out | (with_reducible first | refine Kd.C_alloc ?_ _ | refine Kd.C_drewN ?_ _ | refine Kd.C_drew ?_))); (case side2 => exact HC0.out); rintro e w7 ⟨v637, rfl, ho0, hb⟩; refine ⟨_, rfl, ?_⟩; have n0_ := Aside0.mk (Kd.R_lower ho0 (below_size zb)); have n1_ := Aside0.mk (below_step zb hb); clear HB; have HO638 := n0_; have HB := n1_; clear n0_ n1_; (try clear hb); (try clear hb2); (try clear hk); (try clear hi); (try clear ho0); obtain ⟨Ao8, co8, eo8⟩ := Kd.R_slice HO638.out; subst eo8) | ((with_reducible refine gate_callee (f := 19) rfl ?_); refine goesL_ (some 20) rfl rfl Try.func19 (by kernel_rfl) rfl #[.slice Ao8 t92.length co8, .int .i64 t636] rfl zm ?_; (with_reducible refine (impl_ChainBack.calls k _ _ t92 t636 t98 t97 _ ?side1 ?side2 A5.out).mono ?_); (case side1 => repeat (first | exact (Kd.R_reads' HO638.out).2.2 | (with_reducible first | refine Kd.C_alloc ?_ _ | refine Kd.C_drewN ?_ _ | refine Kd.C_drew ?_))); (case side2 => exact (Kd.R_reads' HO638.out).2.1); rintro e w9 ⟨v641, rfl, ho0, hb⟩; refine ⟨_, rfl, ?_⟩; have n0_ := Aside0.mk (Kd.R_below (by (with_reducible repeat (first | apply Kd.R_alloc | apply Kd.R_drewN | apply Kd.R_drew)); exact HO638.out) hb); have n1_ := Aside0.mk (Kd.R_lower ho0 (below_size zb)); have n2_ := Aside0.mk (below_step zb hb); clear HO638; clear HB; have HO638 := n0_; have HO642 := n1_; have HB := n2_; clear n0_ n1_ n2_; (try clear hb); (try clear hb2); (try clear hk); (try clear hi); (try clear ho0)) | ((with_reducible refine gate_dst (N := 5) rfl ?_); (try (refine gate_guard (by rfl) ?_; dsimp only)); refine box_event ?hg (N := 5) ?hd (cs := #[.int .i64 0, .slice none 0 0]) (t := 35) ?hr ?_; (case hd => rfl); (case hg => rfl); (case hr => first | (go_simp; done) | (go_simp; rfl)); intro gb95 hg w10 hbox hb; have n0_ := Aside0.mk (Kd.R_below (by (with_reducible repeat (first | apply Kd.R_alloc | apply Kd.R_drewN | apply Kd.R_drew)); exact HO638.out) hb); have n1_ := Aside0.mk (Kd.R_below (by (with_reducible repeat (first | apply Kd.R_alloc | apply Kd.R_drewN | apply Kd.R_drew)); exact HO642.out) hb); have n2_ := Aside0.mk (below_step zb hb); have n3_ := Aside0.mk (hbox); have n4_ := Aside0.mk ((by rw [hg]; exact (below_size zb) : w.heap.size ≤ gb95)); have n5_ := n4_; clear HO638; clear HO642; clear HB; have HO638 := n0_; have HO642 := n1_; have HB := n2_; have BK95 := n3_; have GW95 := n4_; have GE95 := n5_; clear n0_ n1_ n2_ n3_ n4_ n5_; clear hb hbox hg; obtain ⟨hcz11_0, hcz11_1, hfz11_0, hfz11_1⟩ := Lv.blks2 BK95.out; obtain ⟨Ao12, co12, eo12⟩ := Kd.R_slice HO642.out; subst eo12))
  go_loopg [6] k (fun kq v6 w' => ∃ (x6_1 : Int), v6 = .int .i64 x6_1 ∧ Aside0 (laws_FnBacks.l0 kq t92 t636 x6_1 t98 t97 = some true) ∧ Aside0 (kq ≤ k) ∧ Aside0 (Kd.R k48 48 w' w.heap.size (fun _ => True) (.slice Ao8 t92.length co8) t92) ∧ Aside0 (Kd.R (Kd.int .i64) 2 w' w.heap.size (fun _ => True) (.slice Ao12 t97.length co12) t97) ∧ Aside0 (w'.heap[gb95]? = some (.cells #[.int .i64 t98, (.slice Ao12 t97.length co12)] 35 (0, 0))) ∧ Aside0 (Below w.heap.size w w'))
  case atStart => exact ⟨(0), zs, H', ⟨Nat.le_refl _⟩, ⟨by (with_reducible repeat (first | apply Kd.R_alloc | apply Kd.R_drewN | apply Kd.R_drew)); exact Kd.R_mono (Kd.R_far (p := ⟨gb95, 1, none⟩) (Kd.R_far (p := ⟨gb95, 0, none⟩) (Kd.R_types HO638.out BK95.out (by decide)) (fun _ hk => hk.2) (.int .i64 t98)) (fun _ hk => hk.2) (.slice Ao12 t97.length co12)) (fun _ hk => trivial)⟩, ⟨by (with_reducible repeat (first | apply Kd.R_alloc | apply Kd.R_drewN | apply Kd.R_drew)); exact Kd.R_mono (Kd.R_far (p := ⟨gb95, 1, none⟩) (Kd.R_far (p := ⟨gb95, 0, none⟩) (Kd.R_types HO642.out BK95.out (by decide)) (fun _ hk => hk.2) (.int .i64 t98)) (fun _ hk => hk.2) (.slice Ao12 t97.length co12)) (fun _ hk => trivial)⟩, ⟨by (with_reducible repeat (first | refine blk_drewN ?_ _ | refine blk_drew ?_ | refine blk_alloc ?_ _)); refine blk_put (cs := #[.int .i64 t98, .slice none 0 0]) ?_ 1 _ rfl; (with_reducible repeat (first | refine blk_drewN ?_ _ | refine blk_drew ?_ | refine blk_alloc ?_ _)); refine blk_put (cs := #[.int .i64 0, .slice none 0 0]) ?_ 0 _ rfl; (with_reducible repeat (first | refine blk_drewN ?_ _ | refine blk_drew ?_ | refine blk_alloc ?_ _)); exact BK95.out⟩, ⟨zb⟩⟩
  case round =>
   clear H'
   try clear c1
   try clear c2
   try clear p2
   try clear c3
   try clear c5
   try clear c6
   try clear c6b0
   try clear c6b1
   try clear hcz11_0 hcz11_1 hfz11_0 hfz11_1
   obtain ⟨x6_1, rfl, HA, HK1, HO_3, HO_93, BK95, HB⟩ := hrel
   cases gk with
   | zero => exact absurd HA.out (by simp [laws_FnBacks.l0])
   | succ k1 =>
    have H := HA.out
    clear HA
    simp only [laws_FnBacks.l0] at H
    by_cases c13 : x6_1 < (t97.length : Int)
    ·rw [if_pos c13] at H
     have c13b0 : decide (x6_1 < (t97.length : Int)) = true := decide_eq_true c13
     clear c13
     by_cases c14 : 0 ≤ x6_1
     ·rw [if_pos c14] at H
      have c14b0 : decide (0 ≤ x6_1) = true := decide_eq_true c14
      clear c14
      obtain ⟨ji15, hji15⟩ : ∃ j_ : Int, (wrap64 ((rd t97 x6_1) - 1)) = j_ := ⟨_, rfl⟩
      replace H : (if 0 ≤ (ji15) then (if (ji15) < (t92.length : Int) then (if ((rd_T48 t92 (ji15)).f0) = 2 then (if ((rd_T48 t92 (ji15)).f1) = t636 then (if x6_1 > 0 then (if 0 ≤ (wrap64 (x6_1 - 1)) then (if (wrap64 (x6_1 - 1)) < (t97.length : Int) then (if (rd t97 x6_1) ≥ (rd t97 (wrap64 (x6_1 - 1))) then (some false) else (laws_FnBacks.l0 k1 t92 t636 (wrap64 (x6_1 + 1)) t98 t97)) else (none)) else (none)) else (laws_FnBacks.l0 k1 t92 t636 (wrap64 (x6_1 + 1)) t98 t97)) else (some false)) else (some false)) else (none)) else (none)) = some true := by first | (rw [hji15] at H; exact H) | (simp only [hji15] at H ⊢; exact H)
      have hji15w : (IntKind.i64.wrap ((rd t97 x6_1) - 1)) = ji15 := (i64_w _).trans hji15
      by_cases c16 : 0 ≤ (ji15)
      ·rw [if_pos c16] at H
       have c16b0 : decide (0 ≤ (ji15)) = true := decide_eq_true c16
       clear c16
       by_cases c17 : (ji15) < (t92.length : Int)
       ·rw [if_pos c17] at H
        have c17b0 : decide ((ji15) < (t92.length : Int)) = true := decide_eq_true c17
        clear c17
        by_cases c18 : ((rd_T48 t92 (ji15)).f0) = 2
        ·rw [if_pos c18] at H
         have c18b0 : (((rd_T48 t92 (ji15)).f0) == 2) = true := beq_iff_eq.mpr c18
         have c18b1 : (((rd_T48 t92 (ji15)).f0) != 2) = false := bne_eq_false_iff_eq.mpr c18
         clear c18
         by_cases c19 : ((rd_T48 t92 (ji15)).f1) = t636
         ·rw [if_pos c19] at H
          have c19b0 : (((rd_T48 t92 (ji15)).f1) == t636) = true := beq_iff_eq.mpr c19
          have c19b1 : (((rd_T48 t92 (ji15)).f1) != t636) = false := bne_eq_false_iff_eq.mpr c19
          clear c19
          by_cases c20 : x6_1 > 0
          ·rw [if_pos c20] at H
           have c20b0 : decide (0 < x6_1) = true := decide_eq_true c20
           clear c20
           obtain ⟨ji21, hji21⟩ : ∃ j_ : Int, (wrap64 (x6_1 - 1)) = j_ := ⟨_, rfl⟩
           replace H : (if 0 ≤ (ji21) then (if (ji21) < (t97.length : Int) then (if (rd t97 x6_1) ≥ (rd t97 (ji21)) then (some false) else (laws_FnBacks.l0 k1 t92 t636 (wrap64 (x6_1 + 1)) t98 t97)) else (none)) else (none)) = some true := by first | (rw [hji21] at H; exact H) | (simp only [hji21] at H ⊢; exact H)
           have hji21w : (IntKind.i64.wrap (x6_1 - 1)) = ji21 := (i64_w _).trans hji21
           by_cases c22 : 0 ≤ (ji21)
           ·rw [if_pos c22] at H
            have c22b0 : decide (0 ≤ (ji21)) = true := decide_eq_true c22
            clear c22
            by_cases c23 : (ji21) < (t97.length : Int)
            ·rw [if_pos c23] at H
             have c23b0 : decide ((ji21) < (t97.length : Int)) = true := decide_eq_true c23
             clear c23
             by_cases c24 : (rd t97 x6_1) ≥ (rd t97 (ji21))
             ·rw [if_pos c24] at H
              have c24b0 : decide ((rd t97 (ji21)) ≤ (rd t97 x6_1)) = true := decide_eq_true c24
              clear c24
              exact absurd H (by simp)
             rw [if_neg c24] at H
             have c24b0 : decide ((rd t97 (ji21)) ≤ (rd t97 x6_1)) = false := decide_eq_false c24
             clear c24
             have H' := Aside0.mk H
             clear H
             obtain ⟨hcz25_0, hcz25_1, hfz25_0, hfz25_1⟩ := Lv.blks2 BK95.out
             have p648 : 0 ≤ (x6_1 : Int) := of_decide_eq_true za
             have q648 : x6_1 < (t97.length : Int) := of_decide_eq_true za
             obtain ⟨ad648, e648, hx648_0⟩ := Kd.at_int (Kd.R_reads' HO_93.out).2.2 x6_1 p648 q648
             cases e648
             replace p648 := eq_true p648
             replace q648 := eq_true q648
             have p649 : 0 ≤ ((ji15) : Int) := of_decide_eq_true za
             have q649 : (ji15) < (t92.length : Int) := of_decide_eq_true za
             obtain ⟨ad649, e649, hx649_0, hx649_1, hx649_2, hx649_3, hx649_4, hx649_5, hx649_6, hx649_7⟩ := at_T48 (Kd.R_reads' HO_3.out).2.2 (ji15) p649 q649
             cases e649
             replace p649 := eq_true p649
             replace q649 := eq_true q649
             try go_wp2_with (first | ((with_reducible refine gate_dst (N := 7) rfl ?_); (try (refine gate_guard (by rfl) ?_; dsimp only)); refine box_event ?hg (N := 7) ?hd (cs := #[.int .i64 0, .int .i64 0, .int .i64 0, .bool false, .int .i64 0, .bool false, .int .i64 0, .int .i64 0]) (t := 48) ?hr ?_; (case hd => rfl); (case hg => rfl); (case hr => first | (go_simp; done) | (go_simp; rfl)); intro gb96 hg w26 hbox hb; have n0_ := Aside0.mk (Kd.R_below (Kd.R_elderB (by (with_reducible repeat (first | apply Kd.R_alloc | apply Kd.R_drewN | apply Kd.R_drew)); exact HO_3.out) gb96 (Nat.le_of_eq hg.symm)) hb); have n1_ := Aside0.mk (Kd.R_below (by (with_reducible repeat (first | apply Kd.R_alloc | apply Kd.R_drewN | apply Kd.R_drew)); exact HO_93.out) hb); have n2_ := Aside0.mk (blk_below (g := gb95) (o := .cells #[.int .i64 t98, .slice (some ad648) t97.length co12] 35 (0, 0)) zk hb); have n3_ := Aside0.mk (below_step zb hb); have n4_ := Aside0.mk (hbox); have n5_ := Aside0.mk ((by rw [hg]; exact (below_size zb) : w.heap.size ≤ gb96)); have n6_ := n5_; have n7_ := Aside0.mk ((by rw [hg]; exact Nat.ne_of_lt (blk_lt (g := gb95) (o := .cells #[.int .i64 t98, .slice (some ad648) t97.length co12] 35 (0, 0)) zk) : gb95 ≠ gb96)); have n8_ := Aside0.mk ((by rw [hg]; exact Nat.ne_of_gt (blk_lt (g := gb95) (o := .cells #[.int .i64 t98, .slice (some ad648) t97.length co12] 35 (0, 0)) zk) : gb96 ≠ gb95)); clear HO_3; clear HO_93; clear BK95; clear HB; have HO_3 := n0_; have HO_93 := n1_; have BK95 := n2_; have HB := n3_; have BK96 := n4_; have GW96 := n5_; have GE96 := n6_; have NB643_650 := n7_; have NB650_643 := n8_; clear n0_ n1_ n2_ n3_ n4_ n5_ n6_ n7_ n8_; clear hb hbox hg; have hnb27 := NB650_643.out; have hnc27 := NB643_650.out; obtain ⟨hcz28_0, hcz28_1, hcz28_2, hcz28_3, hcz28_4, hcz28_5, hcz28_6, hcz28_7, hfz28_0, hfz28_1, hfz28_2, hfz28_3, hfz28_4, hfz28_5, hfz28_6, hfz28_7⟩ := Lv.blks8 BK96.out))
             have n0_ : Aside0 (Kd.R k48 48 ((((((((w26.setCell ⟨gb96, 0, none⟩ (.int .i64 ((rd_T48 t92 (ji15)).f0))).setCell ⟨gb96, 1, none⟩ (.int .i64 ((rd_T48 t92 (ji15)).f1))).setCell ⟨gb96, 2, none⟩ (.int .i64 ((rd_T48 t92 (ji15)).f2))).setCell ⟨gb96, 3, none⟩ (.bool ((rd_T48 t92 (ji15)).f3))).setCell ⟨gb96, 4, none⟩ (.int .i64 ((rd_T48 t92 (ji15)).f4))).setCell ⟨gb96, 5, none⟩ (.bool ((rd_T48 t92 (ji15)).f5))).setCell ⟨gb96, 6, none⟩ (.int .i64 ((rd_T48 t92 (ji15)).f6))).setCell ⟨gb96, 7, none⟩ (.int .i64 ((rd_T48 t92 (ji15)).f7))) w.heap.size (fun k_ => k_ ≠ gb96) (.slice (some ad649) t92.length co8) t92) := ⟨by (with_reducible repeat (first | apply Kd.R_alloc | apply Kd.R_drewN | apply Kd.R_drew)); exact Kd.R_mono (Kd.R_far (p := ⟨gb96, 7, none⟩) (Kd.R_far (p := ⟨gb96, 6, none⟩) (Kd.R_far (p := ⟨gb96, 5, none⟩) (Kd.R_far (p := ⟨gb96, 4, none⟩) (Kd.R_far (p := ⟨gb96, 3, none⟩) (Kd.R_far (p := ⟨gb96, 2, none⟩) (Kd.R_far (p := ⟨gb96, 1, none⟩) (Kd.R_far (p := ⟨gb96, 0, none⟩) (Kd.R_mono HO_3.out (fun k_ hk => (⟨hk, hk.2⟩ : _ ∧ k_ ≠ gb96))) (fun _ hk => hk.2) (.int .i64 ((rd_T48 t92 (ji15)).f0))) (fun _ hk => hk.2) (.int .i64 ((rd_T48 t92 (ji15)).f1))) (fun _ hk => hk.2) (.int .i64 ((rd_T48 t92 (ji15)).f2))) (fun _ hk => hk.2) (.bool ((rd_T48 t92 (ji15)).f3))) (fun _ hk => hk.2) (.int .i64 ((rd_T48 t92 (ji15)).f4))) (fun _ hk => hk.2) (.bool ((rd_T48 t92 (ji15)).f5))) (fun _ hk => hk.2) (.int .i64 ((rd_T48 t92 (ji15)).f6))) (fun _ hk => hk.2) (.int .i64 ((rd_T48 t92 (ji15)).f7))) (fun _ hk => hk.1.2)⟩
             have n1_ : Aside0 (Kd.R (Kd.int .i64) 2 ((((((((w26.setCell ⟨gb96, 0, none⟩ (.int .i64 ((rd_T48 t92 (ji15)).f0))).setCell ⟨gb96, 1, none⟩ (.int .i64 ((rd_T48 t92 (ji15)).f1))).setCell ⟨gb96, 2, none⟩ (.int .i64 ((rd_T48 t92 (ji15)).f2))).setCell ⟨gb96, 3, none⟩ (.bool ((rd_T48 t92 (ji15)).f3))).setCell ⟨gb96, 4, none⟩ (.int .i64 ((rd_T48 t92 (ji15)).f4))).setCell ⟨gb96, 5, none⟩ (.bool ((rd_T48 t92 (ji15)).f5))).setCell ⟨gb96, 6, none⟩ (.int .i64 ((rd_T48 t92 (ji15)).f6))).setCell ⟨gb96, 7, none⟩ (.int .i64 ((rd_T48 t92 (ji15)).f7))) w.heap.size (fun _ => True) (.slice (some ad648) t97.length co12) t97) := ⟨by (with_reducible repeat (first | apply Kd.R_alloc | apply Kd.R_drewN | apply Kd.R_drew)); exact Kd.R_mono (Kd.R_far (p := ⟨gb96, 7, none⟩) (Kd.R_far (p := ⟨gb96, 6, none⟩) (Kd.R_far (p := ⟨gb96, 5, none⟩) (Kd.R_far (p := ⟨gb96, 4, none⟩) (Kd.R_far (p := ⟨gb96, 3, none⟩) (Kd.R_far (p := ⟨gb96, 2, none⟩) (Kd.R_far (p := ⟨gb96, 1, none⟩) (Kd.R_far (p := ⟨gb96, 0, none⟩) (Kd.R_types HO_93.out BK96.out (by decide)) (fun _ hk => hk.2) (.int .i64 ((rd_T48 t92 (ji15)).f0))) (fun _ hk => hk.2) (.int .i64 ((rd_T48 t92 (ji15)).f1))) (fun _ hk => hk.2) (.int .i64 ((rd_T48 t92 (ji15)).f2))) (fun _ hk => hk.2) (.bool ((rd_T48 t92 (ji15)).f3))) (fun _ hk => hk.2) (.int .i64 ((rd_T48 t92 (ji15)).f4))) (fun _ hk => hk.2) (.bool ((rd_T48 t92 (ji15)).f5))) (fun _ hk => hk.2) (.int .i64 ((rd_T48 t92 (ji15)).f6))) (fun _ hk => hk.2) (.int .i64 ((rd_T48 t92 (ji15)).f7))) (fun _ hk => trivial)⟩
             have n2_ : Aside0 (((((((((w26.setCell ⟨gb96, 0, none⟩ (.int .i64 ((rd_T48 t92 (ji15)).f0))).setCell ⟨gb96, 1, none⟩ (.int .i64 ((rd_T48 t92 (ji15)).f1))).setCell ⟨gb96, 2, none⟩ (.int .i64 ((rd_T48 t92 (ji15)).f2))).setCell ⟨gb96, 3, none⟩ (.bool ((rd_T48 t92 (ji15)).f3))).setCell ⟨gb96, 4, none⟩ (.int .i64 ((rd_T48 t92 (ji15)).f4))).setCell ⟨gb96, 5, none⟩ (.bool ((rd_T48 t92 (ji15)).f5))).setCell ⟨gb96, 6, none⟩ (.int .i64 ((rd_T48 t92 (ji15)).f6))).setCell ⟨gb96, 7, none⟩ (.int .i64 ((rd_T48 t92 (ji15)).f7))).heap[gb95]? = some (.cells #[.int .i64 t98, .slice (some ad648) t97.length co12] 35 (0, 0))) := ⟨by (with_reducible repeat (first | refine blk_drewN ?_ _ | refine blk_drew ?_ | refine blk_alloc ?_ _)); refine blk_far ?_ NB643_650.out _; (with_reducible repeat (first | refine blk_drewN ?_ _ | refine blk_drew ?_ | refine blk_alloc ?_ _)); refine blk_far ?_ NB643_650.out _; (with_reducible repeat (first | refine blk_drewN ?_ _ | refine blk_drew ?_ | refine blk_alloc ?_ _)); refine blk_far ?_ NB643_650.out _; (with_reducible repeat (first | refine blk_drewN ?_ _ | refine blk_drew ?_ | refine blk_alloc ?_ _)); refine blk_far ?_ NB643_650.out _; (with_reducible repeat (first | refine blk_drewN ?_ _ | refine blk_drew ?_ | refine blk_alloc ?_ _)); refine blk_far ?_ NB643_650.out _; (with_reducible repeat (first | refine blk_drewN ?_ _ | refine blk_drew ?_ | refine blk_alloc ?_ _)); refine blk_far ?_ NB643_650.out _; (with_reducible repeat (first | refine blk_drewN ?_ _ | refine blk_drew ?_ | refine blk_alloc ?_ _)); refine blk_far ?_ NB643_650.out _; (with_reducible repeat (first | refine blk_drewN ?_ _ | refine blk_drew ?_ | refine blk_alloc ?_ _)); refine blk_far ?_ NB643_650.out _; (with_reducible repeat (first | refine blk_drewN ?_ _ | refine blk_drew ?_ | refine blk_alloc ?_ _)); exact BK95.out⟩
             have n3_ : Aside0 (((((((((w26.setCell ⟨gb96, 0, none⟩ (.int .i64 ((rd_T48 t92 (ji15)).f0))).setCell ⟨gb96, 1, none⟩ (.int .i64 ((rd_T48 t92 (ji15)).f1))).setCell ⟨gb96, 2, none⟩ (.int .i64 ((rd_T48 t92 (ji15)).f2))).setCell ⟨gb96, 3, none⟩ (.bool ((rd_T48 t92 (ji15)).f3))).setCell ⟨gb96, 4, none⟩ (.int .i64 ((rd_T48 t92 (ji15)).f4))).setCell ⟨gb96, 5, none⟩ (.bool ((rd_T48 t92 (ji15)).f5))).setCell ⟨gb96, 6, none⟩ (.int .i64 ((rd_T48 t92 (ji15)).f6))).setCell ⟨gb96, 7, none⟩ (.int .i64 ((rd_T48 t92 (ji15)).f7))).heap[gb96]? = some (.cells #[.int .i64 ((rd_T48 t92 (ji15)).f0), .int .i64 ((rd_T48 t92 (ji15)).f1), .int .i64 ((rd_T48 t92 (ji15)).f2), .bool ((rd_T48 t92 (ji15)).f3), .int .i64 ((rd_T48 t92 (ji15)).f4), .bool ((rd_T48 t92 (ji15)).f5), .int .i64 ((rd_T48 t92 (ji15)).f6), .int .i64 ((rd_T48 t92 (ji15)).f7)] 48 (0, 0))) := ⟨by (with_reducible repeat (first | refine blk_drewN ?_ _ | refine blk_drew ?_ | refine blk_alloc ?_ _)); refine blk_put (cs := #[.int .i64 ((rd_T48 t92 (ji15)).f0), .int .i64 ((rd_T48 t92 (ji15)).f1), .int .i64 ((rd_T48 t92 (ji15)).f2), .bool ((rd_T48 t92 (ji15)).f3), .int .i64 ((rd_T48 t92 (ji15)).f4), .bool ((rd_T48 t92 (ji15)).f5), .int .i64 ((rd_T48 t92 (ji15)).f6), .int .i64 0]) ?_ 7 _ rfl; (with_reducible repeat (first | refine blk_drewN ?_ _ | refine blk_drew ?_ | refine blk_alloc ?_ _)); refine blk_put (cs := #[.int .i64 ((rd_T48 t92 (ji15)).f0), .int .i64 ((rd_T48 t92 (ji15)).f1), .int .i64 ((rd_T48 t92 (ji15)).f2), .bool ((rd_T48 t92 (ji15)).f3), .int .i64 ((rd_T48 t92 (ji15)).f4), .bool ((rd_T48 t92 (ji15)).f5), .int .i64 0, .int .i64 0]) ?_ 6 _ rfl; (with_reducible repeat (first | refine blk_drewN ?_ _ | refine blk_drew ?_ | refine blk_alloc ?_ _)); refine blk_put (cs := #[.int .i64 ((rd_T48 t92 (ji15)).f0), .int .i64 ((rd_T48 t92 (ji15)).f1), .int .i64 ((rd_T48 t92 (ji15)).f2), .bool ((rd_T48 t92 (ji15)).f3), .int .i64 ((rd_T48 t92 (ji15)).f4), .bool false, .int .i64 0, .int .i64 0]) ?_ 5 _ rfl; (with_reducible repeat (first | refine blk_drewN ?_ _ | refine blk_drew ?_ | refine blk_alloc ?_ _)); refine blk_put (cs := #[.int .i64 ((rd_T48 t92 (ji15)).f0), .int .i64 ((rd_T48 t92 (ji15)).f1), .int .i64 ((rd_T48 t92 (ji15)).f2), .bool ((rd_T48 t92 (ji15)).f3), .int .i64 0, .bool false, .int .i64 0, .int .i64 0]) ?_ 4 _ rfl; (with_reducible repeat (first | refine blk_drewN ?_ _ | refine blk_drew ?_ | refine blk_alloc ?_ _)); refine blk_put (cs := #[.int .i64 ((rd_T48 t92 (ji15)).f0), .int .i64 ((rd_T48 t92 (ji15)).f1), .int .i64 ((rd_T48 t92 (ji15)).f2), .bool false, .int .i64 0, .bool false, .int .i64 0, .int .i64 0]) ?_ 3 _ rfl; (with_reducible repeat (first | refine blk_drewN ?_ _ | refine blk_drew ?_ | refine blk_alloc ?_ _)); refine blk_put (cs := #[.int .i64 ((rd_T48 t92 (ji15)).f0), .int .i64 ((rd_T48 t92 (ji15)).f1), .int .i64 0, .bool false, .int .i64 0, .bool false, .int .i64 0, .int .i64 0]) ?_ 2 _ rfl; (with_reducible repeat (first | refine blk_drewN ?_ _ | refine blk_drew ?_ | refine blk_alloc ?_ _)); refine blk_put (cs := #[.int .i64 ((rd_T48 t92 (ji15)).f0), .int .i64 0, .int .i64 0, .bool false, .int .i64 0, .bool false, .int .i64 0, .int .i64 0]) ?_ 1 _ rfl; (with_reducible repeat (first | refine blk_drewN ?_ _ | refine blk_drew ?_ | refine blk_alloc ?_ _)); refine blk_put (cs := #[.int .i64 0, .int .i64 0, .int .i64 0, .bool false, .int .i64 0, .bool false, .int .i64 0, .int .i64 0]) ?_ 0 _ rfl; (with_reducible repeat (first | refine blk_drewN ?_ _ | refine blk_drew ?_ | refine blk_alloc ?_ _)); exact BK96.out⟩
             have n4_ : Aside0 (Below w.heap.size w ((((((((w26.setCell ⟨gb96, 0, none⟩ (.int .i64 ((rd_T48 t92 (ji15)).f0))).setCell ⟨gb96, 1, none⟩ (.int .i64 ((rd_T48 t92 (ji15)).f1))).setCell ⟨gb96, 2, none⟩ (.int .i64 ((rd_T48 t92 (ji15)).f2))).setCell ⟨gb96, 3, none⟩ (.bool ((rd_T48 t92 (ji15)).f3))).setCell ⟨gb96, 4, none⟩ (.int .i64 ((rd_T48 t92 (ji15)).f4))).setCell ⟨gb96, 5, none⟩ (.bool ((rd_T48 t92 (ji15)).f5))).setCell ⟨gb96, 6, none⟩ (.int .i64 ((rd_T48 t92 (ji15)).f6))).setCell ⟨gb96, 7, none⟩ (.int .i64 ((rd_T48 t92 (ji15)).f7)))) := ⟨zb⟩
             (try clear HO_3)
             (try clear HO_93)
             (try clear BK95)
             (try clear BK96)
             (try clear HB)
             generalize ((((((((w26.setCell ⟨gb96, 0, none⟩ (.int .i64 ((rd_T48 t92 (ji15)).f0))).setCell ⟨gb96, 1, none⟩ (.int .i64 ((rd_T48 t92 (ji15)).f1))).setCell ⟨gb96, 2, none⟩ (.int .i64 ((rd_T48 t92 (ji15)).f2))).setCell ⟨gb96, 3, none⟩ (.bool ((rd_T48 t92 (ji15)).f3))).setCell ⟨gb96, 4, none⟩ (.int .i64 ((rd_T48 t92 (ji15)).f4))).setCell ⟨gb96, 5, none⟩ (.bool ((rd_T48 t92 (ji15)).f5))).setCell ⟨gb96, 6, none⟩ (.int .i64 ((rd_T48 t92 (ji15)).f6))).setCell ⟨gb96, 7, none⟩ (.int .i64 ((rd_T48 t92 (ji15)).f7))) = w29 at n0_ n1_ n2_ n3_ n4_ ⊢
             have HO_3 := n0_
             have HO_93 := n1_
             have BK95 := n2_
             have BK96 := n3_
             have HB := n4_
             clear n0_ n1_ n2_ n3_ n4_
             have n0_ := Aside0.mk (Kd.R_drew HO_3.out)
             have n1_ := Aside0.mk (Kd.R_drew HO_93.out)
             have n2_ := Aside0.mk (blk_drew BK95.out)
             have n3_ := Aside0.mk (blk_drew BK96.out)
             have n4_ := Aside0.mk (below_drew1 HB.out)
             clear HO_3
             clear HO_93
             clear BK95
             clear BK96
             clear HB
             have HO_3 := n0_
             have HO_93 := n1_
             have BK95 := n2_
             have BK96 := n3_
             have HB := n4_
             clear n0_ n1_ n2_ n3_ n4_
             have p651 : 0 ≤ (x6_1 : Int) := of_decide_eq_true za
             have q651 : x6_1 < (t97.length : Int) := of_decide_eq_true za
             obtain ⟨ad651, e651, hx651_0⟩ := Kd.at_int (Kd.R_reads' HO_93.out).2.2 x6_1 p651 q651
             obtain rfl : ad648 = ad651 := (by injection e651)
             replace p651 := eq_true p651
             replace q651 := eq_true q651
             have p652 : 0 ≤ ((ji21) : Int) := of_decide_eq_true za
             have q652 : (ji21) < (t97.length : Int) := of_decide_eq_true za
             obtain ⟨ad652, e652, hx652_0⟩ := Kd.at_int (Kd.R_reads' HO_93.out).2.2 (ji21) p652 q652
             obtain rfl : ad648 = ad652 := (by injection e652)
             replace p652 := eq_true p652
             replace q652 := eq_true q652
             refine start_ (n := 27) (S := fun w' => w'.cell? ⟨gb96, 0, none⟩ = some (.int .i64 ((rd_T48 t92 (ji15)).f0)) ∧ w'.cell? ⟨gb96, 1, none⟩ = some (.int .i64 ((rd_T48 t92 (ji15)).f1)) ∧ w'.cell? ⟨gb96, 2, none⟩ = some (.int .i64 ((rd_T48 t92 (ji15)).f2)) ∧ w'.cell? ⟨gb96, 3, none⟩ = some (.bool ((rd_T48 t92 (ji15)).f3)) ∧ w'.cell? ⟨gb96, 4, none⟩ = some (.int .i64 ((rd_T48 t92 (ji15)).f4)) ∧ w'.cell? ⟨gb96, 5, none⟩ = some (.bool ((rd_T48 t92 (ji15)).f5)) ∧ w'.cell? ⟨gb96, 6, none⟩ = some (.int .i64 ((rd_T48 t92 (ji15)).f6)) ∧ w'.cell? ⟨gb96, 7, none⟩ = some (.int .i64 ((rd_T48 t92 (ji15)).f7)) ∧ w'.cell? ⟨gb95, 0, none⟩ = some (.int .i64 t98) ∧ w'.cell? ⟨gb95, 1, none⟩ = some (.slice (some ad648) t97.length co12) ∧ w'.cell? (ad648.add (x6_1).toNat) = some (.int .i64 (rd t97 x6_1)) ∧ w'.cell? (ad648.add ((ji21)).toNat) = some (.int .i64 (rd t97 (ji21)))) (ds := []) #[false, false, false, false, false, false, false, false, false, false, false, false, false, false, false, false, false, false, false, false, false, false, false, false, false, false, false] (by kernel_rfl) rfl rfl ⟨(blk_cell BK96.out 0).trans rfl, (blk_cell BK96.out 1).trans rfl, (blk_cell BK96.out 2).trans rfl, (blk_cell BK96.out 3).trans rfl, (blk_cell BK96.out 4).trans rfl, (blk_cell BK96.out 5).trans rfl, (blk_cell BK96.out 6).trans rfl, (blk_cell BK96.out 7).trans rfl, (blk_cell BK95.out 0).trans rfl, (blk_cell BK95.out 1).trans rfl, hx651_0, hx652_0⟩ (fun hHeld => ?_); refine with_tabW laws_FnBacks.tab11 laws_FnBacks.bits11 (fun HT_ HW_ => ?_)
             generalize w29.drew = w30 at HO_3 HO_93 BK95 BK96 HB hx651_0 hx652_0 hHeld ⊢
             refine zp 0 47 ?_; refine zt 1 48 ?_; refine zp 2 49 ?_; refine zp 3 50 ?_; refine zp 4 51 ?_; refine zp 6 53 ?_; refine zt 5 52 ?_; refine zp 7 54 ?_; refine zp 8 55 ?_; refine zp 9 56 ?_; refine zp 10 57 ?_; refine zp 11 58 ?_; refine zp 12 59 ?_; refine zp 13 60 ?_; refine zp 15 62 ?_; refine zp 18 65 ?_; refine zp 20 67 ?_; refine zp 21 68 ?_; refine zt 14 61 ?_; refine zp 16 63 ?_; refine zt 17 64 ?_; refine zt 19 66 ?_; refine zp 22 69 ?_; refine zt 23 70 ?_; refine zp 24 71 ?_; refine zp 25 72 ?_; refine zp 26 73 ?_
             refine done_ (done_of HT_.out (by kernel_rfl)) ?_
             try go_wp2
             go_roundg k1
             case measure => have := HK1.out; omega
             case rel => exact ⟨(wrap64 (x6_1 + 1)), zs, H', ⟨by have := HK1.out; omega⟩, ⟨by (with_reducible repeat (first | apply Kd.R_alloc | apply Kd.R_drewN | apply Kd.R_drew)); exact Kd.R_mono HO_3.out (fun _ hk => trivial)⟩, ⟨by (with_reducible repeat (first | apply Kd.R_alloc | apply Kd.R_drewN | apply Kd.R_drew)); exact HO_93.out⟩, ⟨by (with_reducible repeat (first | refine blk_drewN ?_ _ | refine blk_drew ?_ | refine blk_alloc ?_ _)); exact BK95.out⟩, ⟨zb⟩⟩
            rw [if_neg c23] at H
            exact absurd H (by simp)
           rw [if_neg c22] at H
           exact absurd H (by simp)
          rw [if_neg c20] at H
          have c20b0 : decide (0 < x6_1) = false := decide_eq_false c20
          clear c20
          have H' := Aside0.mk H
          clear H
          obtain ⟨hcz31_0, hcz31_1, hfz31_0, hfz31_1⟩ := Lv.blks2 BK95.out
          have p648 : 0 ≤ (x6_1 : Int) := of_decide_eq_true za
          have q648 : x6_1 < (t97.length : Int) := of_decide_eq_true za
          obtain ⟨ad648, e648, hx648_0⟩ := Kd.at_int (Kd.R_reads' HO_93.out).2.2 x6_1 p648 q648
          cases e648
          replace p648 := eq_true p648
          replace q648 := eq_true q648
          have p649 : 0 ≤ ((ji15) : Int) := of_decide_eq_true za
          have q649 : (ji15) < (t92.length : Int) := of_decide_eq_true za
          obtain ⟨ad649, e649, hx649_0, hx649_1, hx649_2, hx649_3, hx649_4, hx649_5, hx649_6, hx649_7⟩ := at_T48 (Kd.R_reads' HO_3.out).2.2 (ji15) p649 q649
          cases e649
          replace p649 := eq_true p649
          replace q649 := eq_true q649
          try go_wp2_with (first | ((with_reducible refine gate_dst (N := 7) rfl ?_); (try (refine gate_guard (by rfl) ?_; dsimp only)); refine box_event ?hg (N := 7) ?hd (cs := #[.int .i64 0, .int .i64 0, .int .i64 0, .bool false, .int .i64 0, .bool false, .int .i64 0, .int .i64 0]) (t := 48) ?hr ?_; (case hd => rfl); (case hg => rfl); (case hr => first | (go_simp; done) | (go_simp; rfl)); intro gb96 hg w32 hbox hb; have n0_ := Aside0.mk (Kd.R_below (Kd.R_elderB (by (with_reducible repeat (first | apply Kd.R_alloc | apply Kd.R_drewN | apply Kd.R_drew)); exact HO_3.out) gb96 (Nat.le_of_eq hg.symm)) hb); have n1_ := Aside0.mk (Kd.R_below (by (with_reducible repeat (first | apply Kd.R_alloc | apply Kd.R_drewN | apply Kd.R_drew)); exact HO_93.out) hb); have n2_ := Aside0.mk (blk_below (g := gb95) (o := .cells #[.int .i64 t98, .slice (some ad648) t97.length co12] 35 (0, 0)) zk hb); have n3_ := Aside0.mk (below_step zb hb); have n4_ := Aside0.mk (hbox); have n5_ := Aside0.mk ((by rw [hg]; exact (below_size zb) : w.heap.size ≤ gb96)); have n6_ := n5_; have n7_ := Aside0.mk ((by rw [hg]; exact Nat.ne_of_lt (blk_lt (g := gb95) (o := .cells #[.int .i64 t98, .slice (some ad648) t97.length co12] 35 (0, 0)) zk) : gb95 ≠ gb96)); have n8_ := Aside0.mk ((by rw [hg]; exact Nat.ne_of_gt (blk_lt (g := gb95) (o := .cells #[.int .i64 t98, .slice (some ad648) t97.length co12] 35 (0, 0)) zk) : gb96 ≠ gb95)); clear HO_3; clear HO_93; clear BK95; clear HB; have HO_3 := n0_; have HO_93 := n1_; have BK95 := n2_; have HB := n3_; have BK96 := n4_; have GW96 := n5_; have GE96 := n6_; have NB643_650 := n7_; have NB650_643 := n8_; clear n0_ n1_ n2_ n3_ n4_ n5_ n6_ n7_ n8_; clear hb hbox hg; have hnb33 := NB650_643.out; have hnc33 := NB643_650.out; obtain ⟨hcz34_0, hcz34_1, hcz34_2, hcz34_3, hcz34_4, hcz34_5, hcz34_6, hcz34_7, hfz34_0, hfz34_1, hfz34_2, hfz34_3, hfz34_4, hfz34_5, hfz34_6, hfz34_7⟩ := Lv.blks8 BK96.out))
          have n0_ : Aside0 (Kd.R k48 48 ((((((((w32.setCell ⟨gb96, 0, none⟩ (.int .i64 ((rd_T48 t92 (ji15)).f0))).setCell ⟨gb96, 1, none⟩ (.int .i64 ((rd_T48 t92 (ji15)).f1))).setCell ⟨gb96, 2, none⟩ (.int .i64 ((rd_T48 t92 (ji15)).f2))).setCell ⟨gb96, 3, none⟩ (.bool ((rd_T48 t92 (ji15)).f3))).setCell ⟨gb96, 4, none⟩ (.int .i64 ((rd_T48 t92 (ji15)).f4))).setCell ⟨gb96, 5, none⟩ (.bool ((rd_T48 t92 (ji15)).f5))).setCell ⟨gb96, 6, none⟩ (.int .i64 ((rd_T48 t92 (ji15)).f6))).setCell ⟨gb96, 7, none⟩ (.int .i64 ((rd_T48 t92 (ji15)).f7))) w.heap.size (fun k_ => k_ ≠ gb96) (.slice (some ad649) t92.length co8) t92) := ⟨by (with_reducible repeat (first | apply Kd.R_alloc | apply Kd.R_drewN | apply Kd.R_drew)); exact Kd.R_mono (Kd.R_far (p := ⟨gb96, 7, none⟩) (Kd.R_far (p := ⟨gb96, 6, none⟩) (Kd.R_far (p := ⟨gb96, 5, none⟩) (Kd.R_far (p := ⟨gb96, 4, none⟩) (Kd.R_far (p := ⟨gb96, 3, none⟩) (Kd.R_far (p := ⟨gb96, 2, none⟩) (Kd.R_far (p := ⟨gb96, 1, none⟩) (Kd.R_far (p := ⟨gb96, 0, none⟩) (Kd.R_mono HO_3.out (fun k_ hk => (⟨hk, hk.2⟩ : _ ∧ k_ ≠ gb96))) (fun _ hk => hk.2) (.int .i64 ((rd_T48 t92 (ji15)).f0))) (fun _ hk => hk.2) (.int .i64 ((rd_T48 t92 (ji15)).f1))) (fun _ hk => hk.2) (.int .i64 ((rd_T48 t92 (ji15)).f2))) (fun _ hk => hk.2) (.bool ((rd_T48 t92 (ji15)).f3))) (fun _ hk => hk.2) (.int .i64 ((rd_T48 t92 (ji15)).f4))) (fun _ hk => hk.2) (.bool ((rd_T48 t92 (ji15)).f5))) (fun _ hk => hk.2) (.int .i64 ((rd_T48 t92 (ji15)).f6))) (fun _ hk => hk.2) (.int .i64 ((rd_T48 t92 (ji15)).f7))) (fun _ hk => hk.1.2)⟩
          have n1_ : Aside0 (Kd.R (Kd.int .i64) 2 ((((((((w32.setCell ⟨gb96, 0, none⟩ (.int .i64 ((rd_T48 t92 (ji15)).f0))).setCell ⟨gb96, 1, none⟩ (.int .i64 ((rd_T48 t92 (ji15)).f1))).setCell ⟨gb96, 2, none⟩ (.int .i64 ((rd_T48 t92 (ji15)).f2))).setCell ⟨gb96, 3, none⟩ (.bool ((rd_T48 t92 (ji15)).f3))).setCell ⟨gb96, 4, none⟩ (.int .i64 ((rd_T48 t92 (ji15)).f4))).setCell ⟨gb96, 5, none⟩ (.bool ((rd_T48 t92 (ji15)).f5))).setCell ⟨gb96, 6, none⟩ (.int .i64 ((rd_T48 t92 (ji15)).f6))).setCell ⟨gb96, 7, none⟩ (.int .i64 ((rd_T48 t92 (ji15)).f7))) w.heap.size (fun _ => True) (.slice (some ad648) t97.length co12) t97) := ⟨by (with_reducible repeat (first | apply Kd.R_alloc | apply Kd.R_drewN | apply Kd.R_drew)); exact Kd.R_mono (Kd.R_far (p := ⟨gb96, 7, none⟩) (Kd.R_far (p := ⟨gb96, 6, none⟩) (Kd.R_far (p := ⟨gb96, 5, none⟩) (Kd.R_far (p := ⟨gb96, 4, none⟩) (Kd.R_far (p := ⟨gb96, 3, none⟩) (Kd.R_far (p := ⟨gb96, 2, none⟩) (Kd.R_far (p := ⟨gb96, 1, none⟩) (Kd.R_far (p := ⟨gb96, 0, none⟩) (Kd.R_types HO_93.out BK96.out (by decide)) (fun _ hk => hk.2) (.int .i64 ((rd_T48 t92 (ji15)).f0))) (fun _ hk => hk.2) (.int .i64 ((rd_T48 t92 (ji15)).f1))) (fun _ hk => hk.2) (.int .i64 ((rd_T48 t92 (ji15)).f2))) (fun _ hk => hk.2) (.bool ((rd_T48 t92 (ji15)).f3))) (fun _ hk => hk.2) (.int .i64 ((rd_T48 t92 (ji15)).f4))) (fun _ hk => hk.2) (.bool ((rd_T48 t92 (ji15)).f5))) (fun _ hk => hk.2) (.int .i64 ((rd_T48 t92 (ji15)).f6))) (fun _ hk => hk.2) (.int .i64 ((rd_T48 t92 (ji15)).f7))) (fun _ hk => trivial)⟩
          have n2_ : Aside0 (((((((((w32.setCell ⟨gb96, 0, none⟩ (.int .i64 ((rd_T48 t92 (ji15)).f0))).setCell ⟨gb96, 1, none⟩ (.int .i64 ((rd_T48 t92 (ji15)).f1))).setCell ⟨gb96, 2, none⟩ (.int .i64 ((rd_T48 t92 (ji15)).f2))).setCell ⟨gb96, 3, none⟩ (.bool ((rd_T48 t92 (ji15)).f3))).setCell ⟨gb96, 4, none⟩ (.int .i64 ((rd_T48 t92 (ji15)).f4))).setCell ⟨gb96, 5, none⟩ (.bool ((rd_T48 t92 (ji15)).f5))).setCell ⟨gb96, 6, none⟩ (.int .i64 ((rd_T48 t92 (ji15)).f6))).setCell ⟨gb96, 7, none⟩ (.int .i64 ((rd_T48 t92 (ji15)).f7))).heap[gb95]? = some (.cells #[.int .i64 t98, .slice (some ad648) t97.length co12] 35 (0, 0))) := ⟨by (with_reducible repeat (first | refine blk_drewN ?_ _ | refine blk_drew ?_ | refine blk_alloc ?_ _)); refine blk_far ?_ NB643_650.out _; (with_reducible repeat (first | refine blk_drewN ?_ _ | refine blk_drew ?_ | refine blk_alloc ?_ _)); refine blk_far ?_ NB643_650.out _; (with_reducible repeat (first | refine blk_drewN ?_ _ | refine blk_drew ?_ | refine blk_alloc ?_ _)); refine blk_far ?_ NB643_650.out _; (with_reducible repeat (first | refine blk_drewN ?_ _ | refine blk_drew ?_ | refine blk_alloc ?_ _)); refine blk_far ?_ NB643_650.out _; (with_reducible repeat (first | refine blk_drewN ?_ _ | refine blk_drew ?_ | refine blk_alloc ?_ _)); refine blk_far ?_ NB643_650.out _; (with_reducible repeat (first | refine blk_drewN ?_ _ | refine blk_drew ?_ | refine blk_alloc ?_ _)); refine blk_far ?_ NB643_650.out _; (with_reducible repeat (first | refine blk_drewN ?_ _ | refine blk_drew ?_ | refine blk_alloc ?_ _)); refine blk_far ?_ NB643_650.out _; (with_reducible repeat (first | refine blk_drewN ?_ _ | refine blk_drew ?_ | refine blk_alloc ?_ _)); refine blk_far ?_ NB643_650.out _; (with_reducible repeat (first | refine blk_drewN ?_ _ | refine blk_drew ?_ | refine blk_alloc ?_ _)); exact BK95.out⟩
          have n3_ : Aside0 (((((((((w32.setCell ⟨gb96, 0, none⟩ (.int .i64 ((rd_T48 t92 (ji15)).f0))).setCell ⟨gb96, 1, none⟩ (.int .i64 ((rd_T48 t92 (ji15)).f1))).setCell ⟨gb96, 2, none⟩ (.int .i64 ((rd_T48 t92 (ji15)).f2))).setCell ⟨gb96, 3, none⟩ (.bool ((rd_T48 t92 (ji15)).f3))).setCell ⟨gb96, 4, none⟩ (.int .i64 ((rd_T48 t92 (ji15)).f4))).setCell ⟨gb96, 5, none⟩ (.bool ((rd_T48 t92 (ji15)).f5))).setCell ⟨gb96, 6, none⟩ (.int .i64 ((rd_T48 t92 (ji15)).f6))).setCell ⟨gb96, 7, none⟩ (.int .i64 ((rd_T48 t92 (ji15)).f7))).heap[gb96]? = some (.cells #[.int .i64 ((rd_T48 t92 (ji15)).f0), .int .i64 ((rd_T48 t92 (ji15)).f1), .int .i64 ((rd_T48 t92 (ji15)).f2), .bool ((rd_T48 t92 (ji15)).f3), .int .i64 ((rd_T48 t92 (ji15)).f4), .bool ((rd_T48 t92 (ji15)).f5), .int .i64 ((rd_T48 t92 (ji15)).f6), .int .i64 ((rd_T48 t92 (ji15)).f7)] 48 (0, 0))) := ⟨by (with_reducible repeat (first | refine blk_drewN ?_ _ | refine blk_drew ?_ | refine blk_alloc ?_ _)); refine blk_put (cs := #[.int .i64 ((rd_T48 t92 (ji15)).f0), .int .i64 ((rd_T48 t92 (ji15)).f1), .int .i64 ((rd_T48 t92 (ji15)).f2), .bool ((rd_T48 t92 (ji15)).f3), .int .i64 ((rd_T48 t92 (ji15)).f4), .bool ((rd_T48 t92 (ji15)).f5), .int .i64 ((rd_T48 t92 (ji15)).f6), .int .i64 0]) ?_ 7 _ rfl; (with_reducible repeat (first | refine blk_drewN ?_ _ | refine blk_drew ?_ | refine blk_alloc ?_ _)); refine blk_put (cs := #[.int .i64 ((rd_T48 t92 (ji15)).f0), .int .i64 ((rd_T48 t92 (ji15)).f1), .int .i64 ((rd_T48 t92 (ji15)).f2), .bool ((rd_T48 t92 (ji15)).f3), .int .i64 ((rd_T48 t92 (ji15)).f4), .bool ((rd_T48 t92 (ji15)).f5), .int .i64 0, .int .i64 0]) ?_ 6 _ rfl; (with_reducible repeat (first | refine blk_drewN ?_ _ | refine blk_drew ?_ | refine blk_alloc ?_ _)); refine blk_put (cs := #[.int .i64 ((rd_T48 t92 (ji15)).f0), .int .i64 ((rd_T48 t92 (ji15)).f1), .int .i64 ((rd_T48 t92 (ji15)).f2), .bool ((rd_T48 t92 (ji15)).f3), .int .i64 ((rd_T48 t92 (ji15)).f4), .bool false, .int .i64 0, .int .i64 0]) ?_ 5 _ rfl; (with_reducible repeat (first | refine blk_drewN ?_ _ | refine blk_drew ?_ | refine blk_alloc ?_ _)); refine blk_put (cs := #[.int .i64 ((rd_T48 t92 (ji15)).f0), .int .i64 ((rd_T48 t92 (ji15)).f1), .int .i64 ((rd_T48 t92 (ji15)).f2), .bool ((rd_T48 t92 (ji15)).f3), .int .i64 0, .bool false, .int .i64 0, .int .i64 0]) ?_ 4 _ rfl; (with_reducible repeat (first | refine blk_drewN ?_ _ | refine blk_drew ?_ | refine blk_alloc ?_ _)); refine blk_put (cs := #[.int .i64 ((rd_T48 t92 (ji15)).f0), .int .i64 ((rd_T48 t92 (ji15)).f1), .int .i64 ((rd_T48 t92 (ji15)).f2), .bool false, .int .i64 0, .bool false, .int .i64 0, .int .i64 0]) ?_ 3 _ rfl; (with_reducible repeat (first | refine blk_drewN ?_ _ | refine blk_drew ?_ | refine blk_alloc ?_ _)); refine blk_put (cs := #[.int .i64 ((rd_T48 t92 (ji15)).f0), .int .i64 ((rd_T48 t92 (ji15)).f1), .int .i64 0, .bool false, .int .i64 0, .bool false, .int .i64 0, .int .i64 0]) ?_ 2 _ rfl; (with_reducible repeat (first | refine blk_drewN ?_ _ | refine blk_drew ?_ | refine blk_alloc ?_ _)); refine blk_put (cs := #[.int .i64 ((rd_T48 t92 (ji15)).f0), .int .i64 0, .int .i64 0, .bool false, .int .i64 0, .bool false, .int .i64 0, .int .i64 0]) ?_ 1 _ rfl; (with_reducible repeat (first | refine blk_drewN ?_ _ | refine blk_drew ?_ | refine blk_alloc ?_ _)); refine blk_put (cs := #[.int .i64 0, .int .i64 0, .int .i64 0, .bool false, .int .i64 0, .bool false, .int .i64 0, .int .i64 0]) ?_ 0 _ rfl; (with_reducible repeat (first | refine blk_drewN ?_ _ | refine blk_drew ?_ | refine blk_alloc ?_ _)); exact BK96.out⟩
          have n4_ : Aside0 (Below w.heap.size w ((((((((w32.setCell ⟨gb96, 0, none⟩ (.int .i64 ((rd_T48 t92 (ji15)).f0))).setCell ⟨gb96, 1, none⟩ (.int .i64 ((rd_T48 t92 (ji15)).f1))).setCell ⟨gb96, 2, none⟩ (.int .i64 ((rd_T48 t92 (ji15)).f2))).setCell ⟨gb96, 3, none⟩ (.bool ((rd_T48 t92 (ji15)).f3))).setCell ⟨gb96, 4, none⟩ (.int .i64 ((rd_T48 t92 (ji15)).f4))).setCell ⟨gb96, 5, none⟩ (.bool ((rd_T48 t92 (ji15)).f5))).setCell ⟨gb96, 6, none⟩ (.int .i64 ((rd_T48 t92 (ji15)).f6))).setCell ⟨gb96, 7, none⟩ (.int .i64 ((rd_T48 t92 (ji15)).f7)))) := ⟨zb⟩
          (try clear HO_3)
          (try clear HO_93)
          (try clear BK95)
          (try clear BK96)
          (try clear HB)
          generalize ((((((((w32.setCell ⟨gb96, 0, none⟩ (.int .i64 ((rd_T48 t92 (ji15)).f0))).setCell ⟨gb96, 1, none⟩ (.int .i64 ((rd_T48 t92 (ji15)).f1))).setCell ⟨gb96, 2, none⟩ (.int .i64 ((rd_T48 t92 (ji15)).f2))).setCell ⟨gb96, 3, none⟩ (.bool ((rd_T48 t92 (ji15)).f3))).setCell ⟨gb96, 4, none⟩ (.int .i64 ((rd_T48 t92 (ji15)).f4))).setCell ⟨gb96, 5, none⟩ (.bool ((rd_T48 t92 (ji15)).f5))).setCell ⟨gb96, 6, none⟩ (.int .i64 ((rd_T48 t92 (ji15)).f6))).setCell ⟨gb96, 7, none⟩ (.int .i64 ((rd_T48 t92 (ji15)).f7))) = w35 at n0_ n1_ n2_ n3_ n4_ ⊢
          have HO_3 := n0_
          have HO_93 := n1_
          have BK95 := n2_
          have BK96 := n3_
          have HB := n4_
          clear n0_ n1_ n2_ n3_ n4_
          have n0_ := Aside0.mk (Kd.R_drew HO_3.out)
          have n1_ := Aside0.mk (Kd.R_drew HO_93.out)
          have n2_ := Aside0.mk (blk_drew BK95.out)
          have n3_ := Aside0.mk (blk_drew BK96.out)
          have n4_ := Aside0.mk (below_drew1 HB.out)
          clear HO_3
          clear HO_93
          clear BK95
          clear BK96
          clear HB
          have HO_3 := n0_
          have HO_93 := n1_
          have BK95 := n2_
          have BK96 := n3_
          have HB := n4_
          clear n0_ n1_ n2_ n3_ n4_
          refine start_ (n := 27) (S := fun w' => w'.cell? ⟨gb96, 0, none⟩ = some (.int .i64 ((rd_T48 t92 (ji15)).f0)) ∧ w'.cell? ⟨gb96, 1, none⟩ = some (.int .i64 ((rd_T48 t92 (ji15)).f1)) ∧ w'.cell? ⟨gb96, 2, none⟩ = some (.int .i64 ((rd_T48 t92 (ji15)).f2)) ∧ w'.cell? ⟨gb96, 3, none⟩ = some (.bool ((rd_T48 t92 (ji15)).f3)) ∧ w'.cell? ⟨gb96, 4, none⟩ = some (.int .i64 ((rd_T48 t92 (ji15)).f4)) ∧ w'.cell? ⟨gb96, 5, none⟩ = some (.bool ((rd_T48 t92 (ji15)).f5)) ∧ w'.cell? ⟨gb96, 6, none⟩ = some (.int .i64 ((rd_T48 t92 (ji15)).f6)) ∧ w'.cell? ⟨gb96, 7, none⟩ = some (.int .i64 ((rd_T48 t92 (ji15)).f7))) (ds := []) #[false, false, false, false, false, false, false, false, false, false, false, false, false, false, false, false, false, false, false, false, false, false, false, false, false, false, false] (by kernel_rfl) rfl rfl ⟨(blk_cell BK96.out 0).trans rfl, (blk_cell BK96.out 1).trans rfl, (blk_cell BK96.out 2).trans rfl, (blk_cell BK96.out 3).trans rfl, (blk_cell BK96.out 4).trans rfl, (blk_cell BK96.out 5).trans rfl, (blk_cell BK96.out 6).trans rfl, (blk_cell BK96.out 7).trans rfl⟩ (fun hHeld => ?_); refine with_tabW laws_FnBacks.tab11 laws_FnBacks.bits11 (fun HT_ HW_ => ?_)
          generalize w35.drew = w36 at HO_3 HO_93 BK95 BK96 HB hHeld ⊢
          refine zp 0 47 ?_; refine zt 1 48 ?_; refine zp 2 49 ?_; refine zp 3 50 ?_; refine zp 4 51 ?_; refine zp 6 53 ?_; refine zt 5 52 ?_; refine zp 7 54 ?_; refine zp 8 55 ?_; refine zp 9 56 ?_; refine zp 10 57 ?_; refine zp 11 58 ?_; refine zp 12 59 ?_
          refine pure_ (i := 13) (N := some 60) (v := undef) (a' := ?_) #[true, true, true, true, true, true, true, true, true, true, true, true, true, true, false, false, false, false, false, false, false, false, false, false, false, false, false] rfl rfl (any_of HT_.out (by kernel_rfl)) (fun _ _ _ h => h) (Or.inr ⟨by rfl, rfl⟩) ?_ ?_
          rotate_left
          ·simp only [Act.put, List.setIfInBounds_toArray, List.set_cons_zero, List.set_cons_succ, i64_w, i32_w]
           rfl
          refine pure_ (i := 14) (N := some 61) (v := undef) (a' := ?_) #[true, true, true, true, true, true, true, true, true, true, true, true, true, true, true, false, false, false, false, false, false, false, false, false, false, false, false] rfl rfl (any_of HT_.out (by kernel_rfl)) (fun _ _ _ h => h) (Or.inr ⟨by rfl, rfl⟩) ?_ ?_
          rotate_left
          ·simp only [Act.put, List.setIfInBounds_toArray, List.set_cons_zero, List.set_cons_succ, i64_w, i32_w]
           rfl
          refine pure_ (i := 15) (N := some 62) (v := undef) (a' := ?_) #[true, true, true, true, true, true, true, true, true, true, true, true, true, true, true, true, false, false, false, false, false, false, false, false, false, false, false] rfl rfl (any_of HT_.out (by kernel_rfl)) (fun _ _ _ h => h) (Or.inr ⟨by rfl, rfl⟩) ?_ ?_
          rotate_left
          ·simp only [Act.put, List.setIfInBounds_toArray, List.set_cons_zero, List.set_cons_succ, i64_w, i32_w]
           rfl
          refine pure_ (i := 16) (N := some 63) (v := undef) (a' := ?_) #[true, true, true, true, true, true, true, true, true, true, true, true, true, true, true, true, true, false, false, false, false, false, false, false, false, false, false] rfl rfl (any_of HT_.out (by kernel_rfl)) (fun _ _ _ h => h) (Or.inr ⟨by rfl, rfl⟩) ?_ ?_
          rotate_left
          ·simp only [Act.put, List.setIfInBounds_toArray, List.set_cons_zero, List.set_cons_succ, i64_w, i32_w]
           rfl
          refine pure_ (i := 17) (N := some 64) (v := undef) (a' := ?_) #[true, true, true, true, true, true, true, true, true, true, true, true, true, true, true, true, true, true, false, false, false, false, false, false, false, false, false] rfl rfl (any_of HT_.out (by kernel_rfl)) (fun _ _ _ h => h) (Or.inr ⟨by rfl, rfl⟩) ?_ ?_
          rotate_left
          ·simp only [Act.put, List.setIfInBounds_toArray, List.set_cons_zero, List.set_cons_succ, i64_w, i32_w]
           rfl
          refine pure_ (i := 18) (N := some 65) (v := undef) (a' := ?_) #[true, true, true, true, true, true, true, true, true, true, true, true, true, true, true, true, true, true, true, false, false, false, false, false, false, false, false] rfl rfl (any_of HT_.out (by kernel_rfl)) (fun _ _ _ h => h) (Or.inr ⟨by rfl, rfl⟩) ?_ ?_
          rotate_left
          ·simp only [Act.put, List.setIfInBounds_toArray, List.set_cons_zero, List.set_cons_succ, i64_w, i32_w]
           rfl
          refine pure_ (i := 19) (N := some 66) (v := undef) (a' := ?_) #[true, true, true, true, true, true, true, true, true, true, true, true, true, true, true, true, true, true, true, true, false, false, false, false, false, false, false] rfl rfl (any_of HT_.out (by kernel_rfl)) (fun _ _ _ h => h) (Or.inr ⟨by rfl, rfl⟩) ?_ ?_
          rotate_left
          ·simp only [Act.put, List.setIfInBounds_toArray, List.set_cons_zero, List.set_cons_succ, i64_w, i32_w]
           rfl
          refine pure_ (i := 20) (N := some 67) (v := undef) (a' := ?_) #[true, true, true, true, true, true, true, true, true, true, true, true, true, true, true, true, true, true, true, true, true, false, false, false, false, false, false] rfl rfl (any_of HT_.out (by kernel_rfl)) (fun _ _ _ h => h) (Or.inr ⟨by rfl, rfl⟩) ?_ ?_
          rotate_left
          ·simp only [Act.put, List.setIfInBounds_toArray, List.set_cons_zero, List.set_cons_succ, i64_w, i32_w]
           rfl
          refine pure_ (i := 21) (N := some 68) (v := undef) (a' := ?_) #[true, true, true, true, true, true, true, true, true, true, true, true, true, true, true, true, true, true, true, true, true, true, false, false, false, false, false] rfl rfl (any_of HT_.out (by kernel_rfl)) (fun _ _ _ h => h) (Or.inr ⟨by rfl, rfl⟩) ?_ ?_
          rotate_left
          ·simp only [Act.put, List.setIfInBounds_toArray, List.set_cons_zero, List.set_cons_succ, i64_w, i32_w]
           rfl
          refine pure_ (i := 22) (N := some 69) (v := undef) (a' := ?_) #[true, true, true, true, true, true, true, true, true, true, true, true, true, true, true, true, true, true, true, true, true, true, true, false, false, false, false] rfl rfl (any_of HT_.out (by kernel_rfl)) (fun _ _ _ h => h) (Or.inr ⟨by rfl, rfl⟩) ?_ ?_
          rotate_left
          ·simp only [Act.put, List.setIfInBounds_toArray, List.set_cons_zero, List.set_cons_succ, i64_w, i32_w]
           rfl
          refine pure_ (i := 23) (N := some 70) (v := undef) (a' := ?_) #[true, true, true, true, true, true, true, true, true, true, true, true, true, true, true, true, true, true, true, true, true, true, true, true, false, false, false] rfl rfl (any_of HT_.out (by kernel_rfl)) (fun _ _ _ h => h) (Or.inr ⟨by rfl, rfl⟩) ?_ ?_
          rotate_left
          ·simp only [Act.put, List.setIfInBounds_toArray, List.set_cons_zero, List.set_cons_succ, i64_w, i32_w]
           rfl
          refine pure_ (i := 24) (N := some 71) (v := undef) (a' := ?_) #[true, true, true, true, true, true, true, true, true, true, true, true, true, true, true, true, true, true, true, true, true, true, true, true, true, false, false] rfl rfl (any_of HT_.out (by kernel_rfl)) (fun _ _ _ h => h) (Or.inr ⟨by rfl, rfl⟩) ?_ ?_
          rotate_left
          ·simp only [Act.put, List.setIfInBounds_toArray, List.set_cons_zero, List.set_cons_succ, i64_w, i32_w]
           rfl
          refine zp 25 72 ?_; refine zp 26 73 ?_
          refine done_ (done_of HT_.out (by kernel_rfl)) ?_
          try go_wp2
          go_roundg k1
          case measure => have := HK1.out; omega
          case rel => exact ⟨(wrap64 (x6_1 + 1)), zs, H', ⟨by have := HK1.out; omega⟩, ⟨by (with_reducible repeat (first | apply Kd.R_alloc | apply Kd.R_drewN | apply Kd.R_drew)); exact Kd.R_mono HO_3.out (fun _ hk => trivial)⟩, ⟨by (with_reducible repeat (first | apply Kd.R_alloc | apply Kd.R_drewN | apply Kd.R_drew)); exact HO_93.out⟩, ⟨by (with_reducible repeat (first | refine blk_drewN ?_ _ | refine blk_drew ?_ | refine blk_alloc ?_ _)); exact BK95.out⟩, ⟨zb⟩⟩
         rw [if_neg c19] at H
         have c19b0 : (((rd_T48 t92 (ji15)).f1) == t636) = false := beq_eq_false_iff_ne.mpr c19
         have c19b1 : (((rd_T48 t92 (ji15)).f1) != t636) = true := bne_iff_ne.mpr c19
         exact absurd H (by simp)
        rw [if_neg c18] at H
        have c18b0 : (((rd_T48 t92 (ji15)).f0) == 2) = false := beq_eq_false_iff_ne.mpr c18
        have c18b1 : (((rd_T48 t92 (ji15)).f0) != 2) = true := bne_iff_ne.mpr c18
        exact absurd H (by simp)
       rw [if_neg c17] at H
       exact absurd H (by simp)
      rw [if_neg c16] at H
      exact absurd H (by simp)
     rw [if_neg c14] at H
     exact absurd H (by simp)
    rw [if_neg c13] at H
    have c13b0 : decide (x6_1 < (t97.length : Int)) = false := decide_eq_false c13
    clear c13
    have HC37 := Aside0.mk H
    clear H
    obtain ⟨hcz38_0, hcz38_1, hfz38_0, hfz38_1⟩ := Lv.blks2 BK95.out
    go_upto_region 13 with (fail)
    go_cut [82] (fun v82 wc => ∃ (kq : Nat) (x82_36 : Bool), v82 = .bool x82_36 ∧ Aside0 (laws_FnBacks.j1 kq t92 t636 x82_36 t98 t97 = some true) ∧ Aside0 (kq ≤ k1) ∧ Aside0 (Kd.R k48 48 wc w.heap.size (fun _ => True) (.slice Ao8 t92.length co8) t92) ∧ Aside0 (Kd.R (Kd.int .i64) 2 wc w.heap.size (fun _ => True) (.slice Ao12 t97.length co12) t97) ∧ Aside0 (wc.heap[gb95]? = some (.cells #[.int .i64 t98, (.slice Ao12 t97.length co12)] 35 (0, 0))) ∧ Aside0 (Below w.heap.size w wc))
    case first =>
     have H := HC37.out
     clear HC37
     by_cases c39 : (t97.length : Int) = 0
     ·rw [if_pos c39] at H
      have c39b0 : ((t97.length : Int) == 0) = true := beq_iff_eq.mpr c39
      have c39b1 : ((t97.length : Int) != 0) = false := bne_eq_false_iff_eq.mpr c39
      clear c39
      (first | rw [c39b0] | (simp only [i64_w, i32_w]; rw [c39b0]) | skip)
      have H' := Aside0.mk H
      clear H
      obtain ⟨hcz40_0, hcz40_1, hfz40_0, hfz40_1⟩ := Lv.blks2 BK95.out
      go_wp2
      go_meet
      case rel => exact ⟨_, (true), zs, H', ⟨by have := HK1.out; first | omega | exact Nat.le_refl _⟩, ⟨by (with_reducible repeat (first | apply Kd.R_alloc | apply Kd.R_drewN | apply Kd.R_drew)); exact HO_3.out⟩, ⟨by (with_reducible repeat (first | apply Kd.R_alloc | apply Kd.R_drewN | apply Kd.R_drew)); exact HO_93.out⟩, ⟨by (with_reducible repeat (first | refine blk_drewN ?_ _ | refine blk_drew ?_ | refine blk_alloc ?_ _)); exact BK95.out⟩, ⟨zb⟩⟩
     rw [if_neg c39] at H
     have c39b0 : ((t97.length : Int) == 0) = false := beq_eq_false_iff_ne.mpr c39
     have c39b1 : ((t97.length : Int) != 0) = true := bne_iff_ne.mpr c39
     have c39b2 : ¬ (t97 = []) := fun h_ => c39 (by rw [h_]; rfl)
     (first | rw [c39b0] | (simp only [i64_w, i32_w]; rw [c39b0]) | skip)
     have H' := Aside0.mk H
     clear H
     obtain ⟨hcz41_0, hcz41_1, hfz41_0, hfz41_1⟩ := Lv.blks2 BK95.out
     go_wp2
     go_meet
     case rel => exact ⟨_, (decide ((t92.length : Int) ≥ 400)), zs, H', ⟨by have := HK1.out; first | omega | exact Nat.le_refl _⟩, ⟨by (with_reducible repeat (first | apply Kd.R_alloc | apply Kd.R_drewN | apply Kd.R_drew)); exact HO_3.out⟩, ⟨by (with_reducible repeat (first | apply Kd.R_alloc | apply Kd.R_drewN | apply Kd.R_drew)); exact HO_93.out⟩, ⟨by (with_reducible repeat (first | refine blk_drewN ?_ _ | refine blk_drew ?_ | refine blk_alloc ?_ _)); exact BK95.out⟩, ⟨zb⟩⟩
    case rest =>
     clear HC37
     try clear c1
     try clear c2
     try clear p2
     try clear c3
     try clear p6
     try clear q6
     try clear hx6
     try clear c13
     try clear c13b0
     try clear c14
     try clear c16
     try clear c17
     try clear c18
     try clear c18b0
     try clear c18b1
     try clear c19
     try clear c19b0
     try clear c19b1
     try clear c20
     try clear c20b0
     try clear c22
     try clear c22b0
     try clear c23
     try clear c23b0
     try clear c24
     try clear c24b0
     try clear c27
     try clear c33
     try clear c39
     try clear c39b0
     try clear c39b1
     try clear c39b2
     try clear hcz25_0 hcz25_1
     try clear hcz28_0 hcz28_1 hcz28_2 hcz28_3 hcz28_4 hcz28_5 hcz28_6 hcz28_7
     try clear hcz31_0 hcz31_1
     try clear hcz34_0 hcz34_1 hcz34_2 hcz34_3 hcz34_4 hcz34_5 hcz34_6 hcz34_7
     try clear hcz38_0 hcz38_1
     try clear hcz40_0 hcz40_1
     try clear hcz41_0 hcz41_1
     try clear hfz25_0 hfz25_1
     try clear hfz28_0 hfz28_1 hfz28_2 hfz28_3 hfz28_4 hfz28_5 hfz28_6 hfz28_7
     try clear hfz31_0 hfz31_1
     try clear hfz34_0 hfz34_1 hfz34_2 hfz34_3 hfz34_4 hfz34_5 hfz34_6 hfz34_7
     try clear hfz38_0 hfz38_1
     try clear hfz40_0 hfz40_1
     try clear hfz41_0 hfz41_1
     try clear hx648_0
     try clear hx649_0
     try clear hx649_1
     try clear hx649_2
     try clear hx649_3
     try clear hx649_4
     try clear hx649_5
     try clear hx649_6
     try clear hx649_7
     try clear hx651_0
     try clear hx652_0
     try clear p648
     try clear p649
     try clear p651
     try clear p652
     try clear q648
     try clear q649
     try clear q651
     try clear q652
     obtain ⟨kq, x82_36, rfl, HA, HJ36, HO_3, HO_93, BK95, HB⟩ := hcut
     cases kq with
     | zero => exact absurd HA.out (by simp [laws_FnBacks.j1])
     | succ kj36 =>
      have H := HA.out
      clear HA
      simp only [laws_FnBacks.j1] at H
      by_cases c42 : x82_36 = true
      ·subst c42
       have H1 : ((spec_ChainBack.f kj36 t92 t636).bind fun bt653 => (some ((bt653.2.length : Int) == (t97.length : Int)))) = some true := by rw [if_pos rfl] at H; first | done | exact H
       clear H
       have H := H1
       clear H1
       replace H := Option.bind_eq_some_iff.mp H
       obtain ⟨⟨t653, t654⟩, A430, H⟩ := H
       replace H : (some ((t654.length : Int) == (t97.length : Int))) = some true := H
       have A43 := Aside0.mk A430
       clear A430
       have HTR_ := Aside0.mk (Option.some.inj H)
       try go_wp2
       have n0_ := Aside0.mk (Kd.R_drew HO_3.out)
       have n1_ := Aside0.mk (Kd.R_drew HO_93.out)
       have n2_ := Aside0.mk (blk_drew BK95.out)
       have n3_ := Aside0.mk (below_drew1 HB.out)
       clear HO_3
       clear HO_93
       clear BK95
       clear HB
       have HO_3 := n0_
       have HO_93 := n1_
       have BK95 := n2_
       have HB := n3_
       clear n0_ n1_ n2_ n3_
       refine start_ (n := 10) (S := fun w' => w'.cell? ⟨gb95, 0, none⟩ = some (.int .i64 t98) ∧ w'.cell? ⟨gb95, 1, none⟩ = some (.slice Ao12 t97.length co12)) (ds := []) #[false, false, false, false, false, false, false, false, false, false] (by kernel_rfl) rfl rfl ⟨(blk_cell BK95.out 0).trans rfl, (blk_cell BK95.out 1).trans rfl⟩ (fun hHeld => ?_); refine with_tabW laws_FnBacks.tab14 laws_FnBacks.bits14 (fun HT_ HW_ => ?_)
       generalize wc.drew = w44 at HO_3 HO_93 BK95 HB hHeld ⊢
       refine zp 0 83 ?_; refine zp 1 84 ?_; refine zp 5 88 ?_; refine zt 6 89 ?_; refine zp 7 90 ?_
       refine one_ (i := 2) (N := some 85) #[true, true, true, false, false, true, true, true, false, false] rfl rfl (one_of HT_.out (by kernel_rfl)) (by decide) (fun K hK => ?_)
       refine goes_ Try.func17 (by kernel_rfl) rfl #[.slice Ao8 t92.length co8, .int .i64 t636] (by rfl) rfl rfl zm ?_
       with_reducible refine (spec_ChainBack.calls kj36 _ _ t92 t636 t653 t654 _ ?side1 ?side2 A43.out).mono ?_
       (case side1 => repeat (first | exact (Kd.R_reads' HO_3.out).2.2 | (with_reducible first | refine Kd.C_alloc ?_ _ | refine Kd.C_drewN ?_ _ | refine Kd.C_drew ?_)))
       (case side2 => exact (Kd.R_reads' HO_3.out).2.1)
       rintro e w45 ⟨v655, rfl, ho0, hb⟩
       refine ⟨_, rfl, ?_⟩
       have n0_ := Aside0.mk (Kd.R_below (by (with_reducible repeat (first | apply Kd.R_alloc | apply Kd.R_drewN | apply Kd.R_drew)); exact HO_3.out) hb)
       have n1_ := Aside0.mk (Kd.R_elder' (by (with_reducible repeat (first | apply Kd.R_alloc | apply Kd.R_drewN | apply Kd.R_drew)); exact HO_93.out) (Kd.R_base ho0) hb)
       have n2_ := Aside0.mk (Kd.R_lower (Kd.R_new' ho0 (Kd.R_lt (by (with_reducible repeat (first | apply Kd.R_alloc | apply Kd.R_drewN | apply Kd.R_drew)); exact HO_93.out))) (below_size zb))
       have n3_ := Aside0.mk (blk_below (g := gb95) (o := .cells #[.int .i64 t98, .slice Ao12 t97.length co12] 35 (0, 0)) zk hb)
       have n4_ := Aside0.mk (below_step zb hb)
       clear HO_3
       clear HO_93
       clear BK95
       clear HB
       have HO_3 := n0_
       have HO_93 := n1_
       have HO656 := n2_
       have BK95 := n3_
       have HB := n4_
       clear n0_ n1_ n2_ n3_ n4_
       (try clear hb)
       (try clear hb2)
       (try clear hk)
       (try clear hi)
       (try clear ho0)
       obtain ⟨Ao46, co46, eo46⟩ := Kd.R_slice HO656.out
       (first | subst eo46 | (injection eo46 with f1_ f2_ f3_; have f4_ := f1_.symm; have f5_ := f3_.symm; clear f1_ f2_ f3_; subst f4_; subst f5_))
       refine hK.out _ _ ⟨(blk_cell BK95.out 0).trans rfl, (blk_cell BK95.out 1).trans rfl⟩ (fun hHeld => ?_)
       clear hK K
       refine norm_ (a' := ?_) ?_ ?_
       rotate_left
       ·show Act.put _ (some 85) _ = _
        simp only [Act.put, List.setIfInBounds_toArray, List.set_cons_zero, List.set_cons_succ, i64_w, i32_w]
        rfl
       refine zp 3 86 ?_; refine zp 4 87 ?_; refine zp 8 91 ?_; refine zp 9 2 ?_
       refine done_ (done_of HT_.out (by kernel_rfl)) ?_
       try go_wp2
       go_ret
       exact ⟨by first | rfl | (exact congrArg (fun b_ => Ending.returned (Value.bool b_)) HTR_.out) | (have HT2_ := HTR_.out; simp_all), zb⟩
      replace c42 := Bool.eq_false_iff.mpr c42
      subst c42
      have H1 : (if 0 < (t97.length : Int) then (if 0 ≤ (wrap64 ((rd t97 0) - 1)) then (if (wrap64 ((rd t97 0) - 1)) < (t92.length : Int) then ((some (([] : List (S48)) : List (S48))).bind fun y660 => (if y660.length + t92.length < 2199023255552 then ((some (y660 ++ t92 : List (S48))).bind fun y663 => ((some (([(⟨5, t636, (rd_T48 t92 (wrap64 ((rd t97 0) - 1))).f2, (rd_T48 t92 (wrap64 ((rd t97 0) - 1))).f5, (rd_T48 t92 (wrap64 ((rd t97 0) - 1))).f6, (rd_T48 t92 (wrap64 ((rd t97 0) - 1))).f3, (rd_T48 t92 (wrap64 ((rd t97 0) - 1))).f4, rd t97 0⟩ : S48)] : List (S48)) : List (S48))).bind fun y667 => (if y663.length + y667.length < 2199023255552 then ((impl_ChainBack.f kj36 (y663 ++ y667) t636).bind fun bt673 => (if bt673.1 = 0 then (if 1 ≤ (t97.length : Int) then ((laws_lwNums.f kj36 bt673.2 (t97.drop 1)).bind fun t682 => (some t682)) else (none)) else (some false))) else (none)))) else (none))) else (none)) else (none)) else (none)) = some true := by rw [if_neg (show ¬ (false = true) by decide)] at H; first | done | exact H
      clear H
      have H := H1
      clear H1
      by_cases c47 : 0 < (t97.length : Int)
      ·rw [if_pos c47] at H
       have c47b0 : decide (0 < (t97.length : Int)) = true := decide_eq_true c47
       have c47b1 : decide (0 < t97.length) = true := decide_eq_true (by omega)
       clear c47
       obtain ⟨ji48, hji48⟩ : ∃ j_ : Int, (wrap64 ((rd t97 0) - 1)) = j_ := ⟨_, rfl⟩
       replace H : (if 0 ≤ (ji48) then (if (ji48) < (t92.length : Int) then ((some (([] : List (S48)) : List (S48))).bind fun y660 => (if y660.length + t92.length < 2199023255552 then ((some (y660 ++ t92 : List (S48))).bind fun y663 => ((some (([(⟨5, t636, (rd_T48 t92 (ji48)).f2, (rd_T48 t92 (ji48)).f5, (rd_T48 t92 (ji48)).f6, (rd_T48 t92 (ji48)).f3, (rd_T48 t92 (ji48)).f4, rd t97 0⟩ : S48)] : List (S48)) : List (S48))).bind fun y667 => (if y663.length + y667.length < 2199023255552 then ((impl_ChainBack.f kj36 (y663 ++ y667) t636).bind fun bt673 => (if bt673.1 = 0 then (if 1 ≤ (t97.length : Int) then ((laws_lwNums.f kj36 bt673.2 (t97.drop 1)).bind fun t682 => (some t682)) else (none)) else (some false))) else (none)))) else (none))) else (none)) else (none)) = some true := by first | (rw [hji48] at H; exact H) | (simp only [hji48] at H ⊢; exact H)
       have hji48w : (IntKind.i64.wrap ((rd t97 0) - 1)) = ji48 := (i64_w _).trans hji48
       by_cases c49 : 0 ≤ (ji48)
       ·rw [if_pos c49] at H
        have c49b0 : decide (0 ≤ (ji48)) = true := decide_eq_true c49
        clear c49
        by_cases c50 : (ji48) < (t92.length : Int)
        ·rw [if_pos c50] at H
         have c50b0 : decide ((ji48) < (t92.length : Int)) = true := decide_eq_true c50
         clear c50
         obtain ⟨y660, hy660⟩ : ∃ y_ : List (S48), y_ = (([] : List (S48))) := ⟨_, rfl⟩
         replace H : (if y660.length + t92.length < 2199023255552 then ((some (y660 ++ t92 : List (S48))).bind fun y663 => ((some (([(⟨5, t636, (rd_T48 t92 (ji48)).f2, (rd_T48 t92 (ji48)).f5, (rd_T48 t92 (ji48)).f6, (rd_T48 t92 (ji48)).f3, (rd_T48 t92 (ji48)).f4, rd t97 0⟩ : S48)] : List (S48)) : List (S48))).bind fun y667 => (if y663.length + y667.length < 2199023255552 then ((impl_ChainBack.f kj36 (y663 ++ y667) t636).bind fun bt673 => (if bt673.1 = 0 then (if 1 ≤ (t97.length : Int) then ((laws_lwNums.f kj36 bt673.2 (t97.drop 1)).bind fun t682 => (some t682)) else (none)) else (some false))) else (none)))) else (none)) = some true := by first | (rw [hy660]; with_reducible exact H) | (have H2_ := (Option.bind_some _ _).symm.trans H; rw [hy660]; with_reducible exact H2_) | (have H2_ := (Option.bind_some _ _).symm.trans H; with_reducible exact H2_) | with_reducible exact H | (rw [hy660]; exact H) | exact H
         have Ny660 := Aside0.mk hy660
         clear hy660
         by_cases c51 : y660.length + t92.length < 2199023255552
         ·rw [if_pos c51] at H
          have LMc51 := Aside0.mk c51
          clear c51
          obtain ⟨y663, hy663⟩ : ∃ y_ : List (S48), y_ = (y660 ++ t92) := ⟨_, rfl⟩
          replace H : ((some (([(⟨5, t636, (rd_T48 t92 (ji48)).f2, (rd_T48 t92 (ji48)).f5, (rd_T48 t92 (ji48)).f6, (rd_T48 t92 (ji48)).f3, (rd_T48 t92 (ji48)).f4, rd t97 0⟩ : S48)] : List (S48)) : List (S48))).bind fun y667 => (if y663.length + y667.length < 2199023255552 then ((impl_ChainBack.f kj36 (y663 ++ y667) t636).bind fun bt673 => (if bt673.1 = 0 then (if 1 ≤ (t97.length : Int) then ((laws_lwNums.f kj36 bt673.2 (t97.drop 1)).bind fun t682 => (some t682)) else (none)) else (some false))) else (none))) = some true := by first | (rw [hy663]; with_reducible exact H) | (have H2_ := (Option.bind_some _ _).symm.trans H; rw [hy663]; with_reducible exact H2_) | (have H2_ := (Option.bind_some _ _).symm.trans H; with_reducible exact H2_) | with_reducible exact H | (rw [hy663]; exact H) | exact H
          have Ny663 := Aside0.mk hy663
          clear hy663
          obtain ⟨y667, hy667⟩ : ∃ y_ : List (S48), y_ = (([(⟨5, t636, (rd_T48 t92 (ji48)).f2, (rd_T48 t92 (ji48)).f5, (rd_T48 t92 (ji48)).f6, (rd_T48 t92 (ji48)).f3, (rd_T48 t92 (ji48)).f4, rd t97 0⟩ : S48)] : List (S48))) := ⟨_, rfl⟩
          replace H : (if y663.length + y667.length < 2199023255552 then ((impl_ChainBack.f kj36 (y663 ++ y667) t636).bind fun bt673 => (if bt673.1 = 0 then (if 1 ≤ (t97.length : Int) then ((laws_lwNums.f kj36 bt673.2 (t97.drop 1)).bind fun t682 => (some t682)) else (none)) else (some false))) else (none)) = some true := by first | (rw [hy667]; with_reducible exact H) | (have H2_ := (Option.bind_some _ _).symm.trans H; rw [hy667]; with_reducible exact H2_) | (have H2_ := (Option.bind_some _ _).symm.trans H; with_reducible exact H2_) | with_reducible exact H | (rw [hy667]; exact H) | exact H
          have Ny667 := Aside0.mk hy667
          clear hy667
          by_cases c52 : y663.length + y667.length < 2199023255552
          ·rw [if_pos c52] at H
           have LMc52 := Aside0.mk c52
           clear c52
           obtain ⟨y670, hy670⟩ : ∃ y_ : List (S48), y_ = (y663 ++ y667) := ⟨_, rfl⟩
           replace H : ((impl_ChainBack.f kj36 y670 t636).bind fun bt673 => (if bt673.1 = 0 then (if 1 ≤ (t97.length : Int) then ((laws_lwNums.f kj36 bt673.2 (t97.drop 1)).bind fun t682 => (some t682)) else (none)) else (some false))) = some true := by first | (rw [hy670]; with_reducible exact H) | (have H2_ := (Option.bind_some _ _).symm.trans H; rw [hy670]; with_reducible exact H2_) | (have H2_ := (Option.bind_some _ _).symm.trans H; with_reducible exact H2_) | with_reducible exact H | (rw [hy670]; exact H) | exact H
           have Ny670 := Aside0.mk hy670
           clear hy670
           replace H := Option.bind_eq_some_iff.mp H
           obtain ⟨⟨t673, t674⟩, A530, H⟩ := H
           replace H : (if t673 = 0 then (if 1 ≤ (t97.length : Int) then ((laws_lwNums.f kj36 t674 (t97.drop 1)).bind fun t682 => (some t682)) else (none)) else (some false)) = some true := H
           have A53 := Aside0.mk A530
           clear A530
           by_cases c54 : t673 = 0
           ·rw [if_pos c54] at H
            have c54b0 : (t673 == 0) = true := beq_iff_eq.mpr c54
            have c54b1 : (t673 != 0) = false := bne_eq_false_iff_eq.mpr c54
            clear c54
            by_cases c55 : 1 ≤ (t97.length : Int)
            ·rw [if_pos c55] at H
             have c55b0 := eq_true c55
             have c55b1 : decide (1 ≤ (t97.length : Int)) = true := decide_eq_true c55
             clear c55
             obtain ⟨y678, hy678⟩ : ∃ y_ : List Int, y_ = (t97.drop 1) := ⟨_, rfl⟩
             replace H : ((laws_lwNums.f kj36 t674 y678).bind fun t682 => (some t682)) = some true := by first | (rw [hy678]; with_reducible exact H) | (have H2_ := (Option.bind_some _ _).symm.trans H; rw [hy678]; with_reducible exact H2_) | (have H2_ := (Option.bind_some _ _).symm.trans H; with_reducible exact H2_) | with_reducible exact H | (rw [hy678]; exact H) | exact H
             have Ny678 := Aside0.mk hy678
             clear hy678
             replace H := Option.bind_eq_some_iff.mp H
             obtain ⟨t682, A560, H⟩ := H
             replace H : (some t682) = some true := H
             have A56 := Aside0.mk A560
             clear A560
             have HTR_ := Aside0.mk (Option.some.inj H)
             obtain ⟨hcz57_0, hcz57_1, hfz57_0, hfz57_1⟩ := Lv.blks2 BK95.out
             have p657 : 0 ≤ (0 : Int) := (by omega)
             have q657 : 0 < (t97.length : Int) := of_decide_eq_true za
             obtain ⟨ad657, e657, hx657_0⟩ := Kd.at_int (Kd.R_reads' HO_93.out).2.2 0 p657 q657
             cases e657
             have qi657 : (0 < t97.length) = True := eq_true (by omega)
             (try rw [show ((0 : Int)).toNat = 0 from rfl] at hx657_0)
             (try rw [Addr.add_zero'] at hx657_0)
             replace p657 := eq_true p657
             replace q657 := eq_true q657
             have p658 : 0 ≤ ((ji48) : Int) := of_decide_eq_true za
             have q658 : (ji48) < (t92.length : Int) := of_decide_eq_true za
             obtain ⟨ad658, e658, hx658_0, hx658_1, hx658_2, hx658_3, hx658_4, hx658_5, hx658_6, hx658_7⟩ := at_T48 (Kd.R_reads' HO_3.out).2.2 (ji48) p658 q658
             cases e658
             replace p658 := eq_true p658
             replace q658 := eq_true q658
             try go_wp2_with (first | ((with_reducible refine gate_dst (N := 8) rfl ?_); (try (refine gate_guard (by rfl) ?_; dsimp only)); refine box_event ?hg (N := 8) ?hd (cs := #[.int .i64 0, .int .i64 0, .int .i64 0, .bool false, .int .i64 0, .bool false, .int .i64 0, .int .i64 0]) (t := 48) ?hr ?_; (case hd => rfl); (case hg => rfl); (case hr => first | (go_simp; done) | (go_simp; rfl)); intro gb94 hg w58 hbox hb; have n0_ := Aside0.mk (Kd.R_below (Kd.R_elderB (by (with_reducible repeat (first | apply Kd.R_alloc | apply Kd.R_drewN | apply Kd.R_drew)); exact HO_3.out) gb94 (Nat.le_of_eq hg.symm)) hb); have n1_ := Aside0.mk (Kd.R_below (by (with_reducible repeat (first | apply Kd.R_alloc | apply Kd.R_drewN | apply Kd.R_drew)); exact HO_93.out) hb); have n2_ := Aside0.mk (blk_below (g := gb95) (o := .cells #[.int .i64 t98, .slice (some ad657) t97.length co12] 35 (0, 0)) zk hb); have n3_ := Aside0.mk (below_step zb hb); have n4_ := Aside0.mk (hbox); have n5_ := Aside0.mk ((by rw [hg]; exact (below_size zb) : w.heap.size ≤ gb94)); have n6_ := n5_; have n7_ := Aside0.mk ((by rw [hg]; exact Nat.ne_of_lt (blk_lt (g := gb95) (o := .cells #[.int .i64 t98, .slice (some ad657) t97.length co12] 35 (0, 0)) zk) : gb95 ≠ gb94)); have n8_ := Aside0.mk ((by rw [hg]; exact Nat.ne_of_gt (blk_lt (g := gb95) (o := .cells #[.int .i64 t98, .slice (some ad657) t97.length co12] 35 (0, 0)) zk) : gb94 ≠ gb95)); clear HO_3; clear HO_93; clear BK95; clear HB; have HO_3 := n0_; have HO_93 := n1_; have BK95 := n2_; have HB := n3_; have BK94 := n4_; have GW94 := n5_; have GE94 := n6_; have NB643_659 := n7_; have NB659_643 := n8_; clear n0_ n1_ n2_ n3_ n4_ n5_ n6_ n7_ n8_; clear hb hbox hg; have hnb59 := NB659_643.out; have hnc59 := NB643_659.out; obtain ⟨hcz60_0, hcz60_1, hcz60_2, hcz60_3, hcz60_4, hcz60_5, hcz60_6, hcz60_7, hfz60_0, hfz60_1, hfz60_2, hfz60_3, hfz60_4, hfz60_5, hfz60_6, hfz60_7⟩ := Lv.blks8 BK94.out))
             have n0_ : Aside0 (Kd.R k48 48 ((((((((w58.setCell ⟨gb94, 0, none⟩ (.int .i64 ((rd_T48 t92 (ji48)).f0))).setCell ⟨gb94, 1, none⟩ (.int .i64 ((rd_T48 t92 (ji48)).f1))).setCell ⟨gb94, 2, none⟩ (.int .i64 ((rd_T48 t92 (ji48)).f2))).setCell ⟨gb94, 3, none⟩ (.bool ((rd_T48 t92 (ji48)).f3))).setCell ⟨gb94, 4, none⟩ (.int .i64 ((rd_T48 t92 (ji48)).f4))).setCell ⟨gb94, 5, none⟩ (.bool ((rd_T48 t92 (ji48)).f5))).setCell ⟨gb94, 6, none⟩ (.int .i64 ((rd_T48 t92 (ji48)).f6))).setCell ⟨gb94, 7, none⟩ (.int .i64 ((rd_T48 t92 (ji48)).f7))) w.heap.size (fun k_ => k_ ≠ gb94) (.slice (some ad658) t92.length co8) t92) := ⟨by (with_reducible repeat (first | apply Kd.R_alloc | apply Kd.R_drewN | apply Kd.R_drew)); exact Kd.R_mono (Kd.R_far (p := ⟨gb94, 7, none⟩) (Kd.R_far (p := ⟨gb94, 6, none⟩) (Kd.R_far (p := ⟨gb94, 5, none⟩) (Kd.R_far (p := ⟨gb94, 4, none⟩) (Kd.R_far (p := ⟨gb94, 3, none⟩) (Kd.R_far (p := ⟨gb94, 2, none⟩) (Kd.R_far (p := ⟨gb94, 1, none⟩) (Kd.R_far (p := ⟨gb94, 0, none⟩) (Kd.R_mono HO_3.out (fun k_ hk => (⟨hk, hk.2⟩ : _ ∧ k_ ≠ gb94))) (fun _ hk => hk.2) (.int .i64 ((rd_T48 t92 (ji48)).f0))) (fun _ hk => hk.2) (.int .i64 ((rd_T48 t92 (ji48)).f1))) (fun _ hk => hk.2) (.int .i64 ((rd_T48 t92 (ji48)).f2))) (fun _ hk => hk.2) (.bool ((rd_T48 t92 (ji48)).f3))) (fun _ hk => hk.2) (.int .i64 ((rd_T48 t92 (ji48)).f4))) (fun _ hk => hk.2) (.bool ((rd_T48 t92 (ji48)).f5))) (fun _ hk => hk.2) (.int .i64 ((rd_T48 t92 (ji48)).f6))) (fun _ hk => hk.2) (.int .i64 ((rd_T48 t92 (ji48)).f7))) (fun _ hk => hk.1.2)⟩
             have n1_ : Aside0 (Kd.R (Kd.int .i64) 2 ((((((((w58.setCell ⟨gb94, 0, none⟩ (.int .i64 ((rd_T48 t92 (ji48)).f0))).setCell ⟨gb94, 1, none⟩ (.int .i64 ((rd_T48 t92 (ji48)).f1))).setCell ⟨gb94, 2, none⟩ (.int .i64 ((rd_T48 t92 (ji48)).f2))).setCell ⟨gb94, 3, none⟩ (.bool ((rd_T48 t92 (ji48)).f3))).setCell ⟨gb94, 4, none⟩ (.int .i64 ((rd_T48 t92 (ji48)).f4))).setCell ⟨gb94, 5, none⟩ (.bool ((rd_T48 t92 (ji48)).f5))).setCell ⟨gb94, 6, none⟩ (.int .i64 ((rd_T48 t92 (ji48)).f6))).setCell ⟨gb94, 7, none⟩ (.int .i64 ((rd_T48 t92 (ji48)).f7))) w.heap.size (fun _ => True) (.slice (some ad657) t97.length co12) t97) := ⟨by (with_reducible repeat (first | apply Kd.R_alloc | apply Kd.R_drewN | apply Kd.R_drew)); exact Kd.R_mono (Kd.R_far (p := ⟨gb94, 7, none⟩) (Kd.R_far (p := ⟨gb94, 6, none⟩) (Kd.R_far (p := ⟨gb94, 5, none⟩) (Kd.R_far (p := ⟨gb94, 4, none⟩) (Kd.R_far (p := ⟨gb94, 3, none⟩) (Kd.R_far (p := ⟨gb94, 2, none⟩) (Kd.R_far (p := ⟨gb94, 1, none⟩) (Kd.R_far (p := ⟨gb94, 0, none⟩) (Kd.R_types HO_93.out BK94.out (by decide)) (fun _ hk => hk.2) (.int .i64 ((rd_T48 t92 (ji48)).f0))) (fun _ hk => hk.2) (.int .i64 ((rd_T48 t92 (ji48)).f1))) (fun _ hk => hk.2) (.int .i64 ((rd_T48 t92 (ji48)).f2))) (fun _ hk => hk.2) (.bool ((rd_T48 t92 (ji48)).f3))) (fun _ hk => hk.2) (.int .i64 ((rd_T48 t92 (ji48)).f4))) (fun _ hk => hk.2) (.bool ((rd_T48 t92 (ji48)).f5))) (fun _ hk => hk.2) (.int .i64 ((rd_T48 t92 (ji48)).f6))) (fun _ hk => hk.2) (.int .i64 ((rd_T48 t92 (ji48)).f7))) (fun _ hk => trivial)⟩
             have n2_ : Aside0 (((((((((w58.setCell ⟨gb94, 0, none⟩ (.int .i64 ((rd_T48 t92 (ji48)).f0))).setCell ⟨gb94, 1, none⟩ (.int .i64 ((rd_T48 t92 (ji48)).f1))).setCell ⟨gb94, 2, none⟩ (.int .i64 ((rd_T48 t92 (ji48)).f2))).setCell ⟨gb94, 3, none⟩ (.bool ((rd_T48 t92 (ji48)).f3))).setCell ⟨gb94, 4, none⟩ (.int .i64 ((rd_T48 t92 (ji48)).f4))).setCell ⟨gb94, 5, none⟩ (.bool ((rd_T48 t92 (ji48)).f5))).setCell ⟨gb94, 6, none⟩ (.int .i64 ((rd_T48 t92 (ji48)).f6))).setCell ⟨gb94, 7, none⟩ (.int .i64 ((rd_T48 t92 (ji48)).f7))).heap[gb95]? = some (.cells #[.int .i64 t98, .slice (some ad657) t97.length co12] 35 (0, 0))) := ⟨by (with_reducible repeat (first | refine blk_drewN ?_ _ | refine blk_drew ?_ | refine blk_alloc ?_ _)); refine blk_far ?_ NB643_659.out _; (with_reducible repeat (first | refine blk_drewN ?_ _ | refine blk_drew ?_ | refine blk_alloc ?_ _)); refine blk_far ?_ NB643_659.out _; (with_reducible repeat (first | refine blk_drewN ?_ _ | refine blk_drew ?_ | refine blk_alloc ?_ _)); refine blk_far ?_ NB643_659.out _; (with_reducible repeat (first | refine blk_drewN ?_ _ | refine blk_drew ?_ | refine blk_alloc ?_ _)); refine blk_far ?_ NB643_659.out _; (with_reducible repeat (first | refine blk_drewN ?_ _ | refine blk_drew ?_ | refine blk_alloc ?_ _)); refine blk_far ?_ NB643_659.out _; (with_reducible repeat (first | refine blk_drewN ?_ _ | refine blk_drew ?_ | refine blk_alloc ?_ _)); refine blk_far ?_ NB643_659.out _; (with_reducible repeat (first | refine blk_drewN ?_ _ | refine blk_drew ?_ | refine blk_alloc ?_ _)); refine blk_far ?_ NB643_659.out _; (with_reducible repeat (first | refine blk_drewN ?_ _ | refine blk_drew ?_ | refine blk_alloc ?_ _)); refine blk_far ?_ NB643_659.out _; (with_reducible repeat (first | refine blk_drewN ?_ _ | refine blk_drew ?_ | refine blk_alloc ?_ _)); exact BK95.out⟩
             have n3_ : Aside0 (((((((((w58.setCell ⟨gb94, 0, none⟩ (.int .i64 ((rd_T48 t92 (ji48)).f0))).setCell ⟨gb94, 1, none⟩ (.int .i64 ((rd_T48 t92 (ji48)).f1))).setCell ⟨gb94, 2, none⟩ (.int .i64 ((rd_T48 t92 (ji48)).f2))).setCell ⟨gb94, 3, none⟩ (.bool ((rd_T48 t92 (ji48)).f3))).setCell ⟨gb94, 4, none⟩ (.int .i64 ((rd_T48 t92 (ji48)).f4))).setCell ⟨gb94, 5, none⟩ (.bool ((rd_T48 t92 (ji48)).f5))).setCell ⟨gb94, 6, none⟩ (.int .i64 ((rd_T48 t92 (ji48)).f6))).setCell ⟨gb94, 7, none⟩ (.int .i64 ((rd_T48 t92 (ji48)).f7))).heap[gb94]? = some (.cells #[.int .i64 ((rd_T48 t92 (ji48)).f0), .int .i64 ((rd_T48 t92 (ji48)).f1), .int .i64 ((rd_T48 t92 (ji48)).f2), .bool ((rd_T48 t92 (ji48)).f3), .int .i64 ((rd_T48 t92 (ji48)).f4), .bool ((rd_T48 t92 (ji48)).f5), .int .i64 ((rd_T48 t92 (ji48)).f6), .int .i64 ((rd_T48 t92 (ji48)).f7)] 48 (0, 0))) := ⟨by (with_reducible repeat (first | refine blk_drewN ?_ _ | refine blk_drew ?_ | refine blk_alloc ?_ _)); refine blk_put (cs := #[.int .i64 ((rd_T48 t92 (ji48)).f0), .int .i64 ((rd_T48 t92 (ji48)).f1), .int .i64 ((rd_T48 t92 (ji48)).f2), .bool ((rd_T48 t92 (ji48)).f3), .int .i64 ((rd_T48 t92 (ji48)).f4), .bool ((rd_T48 t92 (ji48)).f5), .int .i64 ((rd_T48 t92 (ji48)).f6), .int .i64 0]) ?_ 7 _ rfl; (with_reducible repeat (first | refine blk_drewN ?_ _ | refine blk_drew ?_ | refine blk_alloc ?_ _)); refine blk_put (cs := #[.int .i64 ((rd_T48 t92 (ji48)).f0), .int .i64 ((rd_T48 t92 (ji48)).f1), .int .i64 ((rd_T48 t92 (ji48)).f2), .bool ((rd_T48 t92 (ji48)).f3), .int .i64 ((rd_T48 t92 (ji48)).f4), .bool ((rd_T48 t92 (ji48)).f5), .int .i64 0, .int .i64 0]) ?_ 6 _ rfl; (with_reducible repeat (first | refine blk_drewN ?_ _ | refine blk_drew ?_ | refine blk_alloc ?_ _)); refine blk_put (cs := #[.int .i64 ((rd_T48 t92 (ji48)).f0), .int .i64 ((rd_T48 t92 (ji48)).f1), .int .i64 ((rd_T48 t92 (ji48)).f2), .bool ((rd_T48 t92 (ji48)).f3), .int .i64 ((rd_T48 t92 (ji48)).f4), .bool false, .int .i64 0, .int .i64 0]) ?_ 5 _ rfl; (with_reducible repeat (first | refine blk_drewN ?_ _ | refine blk_drew ?_ | refine blk_alloc ?_ _)); refine blk_put (cs := #[.int .i64 ((rd_T48 t92 (ji48)).f0), .int .i64 ((rd_T48 t92 (ji48)).f1), .int .i64 ((rd_T48 t92 (ji48)).f2), .bool ((rd_T48 t92 (ji48)).f3), .int .i64 0, .bool false, .int .i64 0, .int .i64 0]) ?_ 4 _ rfl; (with_reducible repeat (first | refine blk_drewN ?_ _ | refine blk_drew ?_ | refine blk_alloc ?_ _)); refine blk_put (cs := #[.int .i64 ((rd_T48 t92 (ji48)).f0), .int .i64 ((rd_T48 t92 (ji48)).f1), .int .i64 ((rd_T48 t92 (ji48)).f2), .bool false, .int .i64 0, .bool false, .int .i64 0, .int .i64 0]) ?_ 3 _ rfl; (with_reducible repeat (first | refine blk_drewN ?_ _ | refine blk_drew ?_ | refine blk_alloc ?_ _)); refine blk_put (cs := #[.int .i64 ((rd_T48 t92 (ji48)).f0), .int .i64 ((rd_T48 t92 (ji48)).f1), .int .i64 0, .bool false, .int .i64 0, .bool false, .int .i64 0, .int .i64 0]) ?_ 2 _ rfl; (with_reducible repeat (first | refine blk_drewN ?_ _ | refine blk_drew ?_ | refine blk_alloc ?_ _)); refine blk_put (cs := #[.int .i64 ((rd_T48 t92 (ji48)).f0), .int .i64 0, .int .i64 0, .bool false, .int .i64 0, .bool false, .int .i64 0, .int .i64 0]) ?_ 1 _ rfl; (with_reducible repeat (first | refine blk_drewN ?_ _ | refine blk_drew ?_ | refine blk_alloc ?_ _)); refine blk_put (cs := #[.int .i64 0, .int .i64 0, .int .i64 0, .bool false, .int .i64 0, .bool false, .int .i64 0, .int .i64 0]) ?_ 0 _ rfl; (with_reducible repeat (first | refine blk_drewN ?_ _ | refine blk_drew ?_ | refine blk_alloc ?_ _)); exact BK94.out⟩
             have n4_ : Aside0 (Below w.heap.size w ((((((((w58.setCell ⟨gb94, 0, none⟩ (.int .i64 ((rd_T48 t92 (ji48)).f0))).setCell ⟨gb94, 1, none⟩ (.int .i64 ((rd_T48 t92 (ji48)).f1))).setCell ⟨gb94, 2, none⟩ (.int .i64 ((rd_T48 t92 (ji48)).f2))).setCell ⟨gb94, 3, none⟩ (.bool ((rd_T48 t92 (ji48)).f3))).setCell ⟨gb94, 4, none⟩ (.int .i64 ((rd_T48 t92 (ji48)).f4))).setCell ⟨gb94, 5, none⟩ (.bool ((rd_T48 t92 (ji48)).f5))).setCell ⟨gb94, 6, none⟩ (.int .i64 ((rd_T48 t92 (ji48)).f6))).setCell ⟨gb94, 7, none⟩ (.int .i64 ((rd_T48 t92 (ji48)).f7)))) := ⟨zb⟩
             (try clear HO_3)
             (try clear HO_93)
             (try clear BK95)
             (try clear BK94)
             (try clear HB)
             generalize ((((((((w58.setCell ⟨gb94, 0, none⟩ (.int .i64 ((rd_T48 t92 (ji48)).f0))).setCell ⟨gb94, 1, none⟩ (.int .i64 ((rd_T48 t92 (ji48)).f1))).setCell ⟨gb94, 2, none⟩ (.int .i64 ((rd_T48 t92 (ji48)).f2))).setCell ⟨gb94, 3, none⟩ (.bool ((rd_T48 t92 (ji48)).f3))).setCell ⟨gb94, 4, none⟩ (.int .i64 ((rd_T48 t92 (ji48)).f4))).setCell ⟨gb94, 5, none⟩ (.bool ((rd_T48 t92 (ji48)).f5))).setCell ⟨gb94, 6, none⟩ (.int .i64 ((rd_T48 t92 (ji48)).f6))).setCell ⟨gb94, 7, none⟩ (.int .i64 ((rd_T48 t92 (ji48)).f7))) = w61 at n0_ n1_ n2_ n3_ n4_ ⊢
             have HO_3 := n0_
             have HO_93 := n1_
             have BK95 := n2_
             have BK94 := n3_
             have HB := n4_
             clear n0_ n1_ n2_ n3_ n4_
             have n0_ := Aside0.mk (Kd.R_drew HO_3.out)
             have n1_ := Aside0.mk (Kd.R_drew HO_93.out)
             have n2_ := Aside0.mk (blk_drew BK95.out)
             have n3_ := Aside0.mk (blk_drew BK94.out)
             have n4_ := Aside0.mk (below_drew1 HB.out)
             clear HO_3
             clear HO_93
             clear BK95
             clear BK94
             clear HB
             have HO_3 := n0_
             have HO_93 := n1_
             have BK95 := n2_
             have BK94 := n3_
             have HB := n4_
             clear n0_ n1_ n2_ n3_ n4_
             have p666 : 0 ≤ (0 : Int) := (by omega)
             have q666 : 0 < (t97.length : Int) := of_decide_eq_true za
             obtain ⟨ad666, e666, hx666_0⟩ := Kd.at_int (Kd.R_reads' HO_93.out).2.2 0 p666 q666
             obtain rfl : ad657 = ad666 := (by injection e666)
             have qi666 : (0 < t97.length) = True := eq_true (by omega)
             (try rw [show ((0 : Int)).toNat = 0 from rfl] at hx666_0)
             (try rw [Addr.add_zero'] at hx666_0)
             replace p666 := eq_true p666
             replace q666 := eq_true q666
             refine start_ (n := 22) (S := fun w' => w'.cell? ⟨gb94, 0, none⟩ = some (.int .i64 ((rd_T48 t92 (ji48)).f0)) ∧ w'.cell? ⟨gb94, 1, none⟩ = some (.int .i64 ((rd_T48 t92 (ji48)).f1)) ∧ w'.cell? ⟨gb94, 2, none⟩ = some (.int .i64 ((rd_T48 t92 (ji48)).f2)) ∧ w'.cell? ⟨gb94, 3, none⟩ = some (.bool ((rd_T48 t92 (ji48)).f3)) ∧ w'.cell? ⟨gb94, 4, none⟩ = some (.int .i64 ((rd_T48 t92 (ji48)).f4)) ∧ w'.cell? ⟨gb94, 5, none⟩ = some (.bool ((rd_T48 t92 (ji48)).f5)) ∧ w'.cell? ⟨gb94, 6, none⟩ = some (.int .i64 ((rd_T48 t92 (ji48)).f6)) ∧ w'.cell? ⟨gb94, 7, none⟩ = some (.int .i64 ((rd_T48 t92 (ji48)).f7)) ∧ w'.cell? ⟨gb95, 0, none⟩ = some (.int .i64 t98) ∧ w'.cell? ⟨gb95, 1, none⟩ = some (.slice (some ad657) t97.length co12) ∧ w'.cell? ad657 = some (.int .i64 (rd t97 0))) (ds := []) #[false, false, false, false, false, false, false, false, false, false, false, false, false, false, false, false, false, false, false, false, false, false] (by kernel_rfl) rfl rfl ⟨(blk_cell BK94.out 0).trans rfl, (blk_cell BK94.out 1).trans rfl, (blk_cell BK94.out 2).trans rfl, (blk_cell BK94.out 3).trans rfl, (blk_cell BK94.out 4).trans rfl, (blk_cell BK94.out 5).trans rfl, (blk_cell BK94.out 6).trans rfl, (blk_cell BK94.out 7).trans rfl, (blk_cell BK95.out 0).trans rfl, (blk_cell BK95.out 1).trans rfl, hx666_0⟩ (fun hHeld => ?_); refine with_tabW laws_FnBacks.tab16 laws_FnBacks.bits16 (fun HT_ HW_ => ?_)
             generalize w61.drew = w62 at HO_3 HO_93 BK95 BK94 HB hx666_0 hHeld ⊢
             refine zp 1 101 ?_; refine zp 3 103 ?_; refine zp 4 104 ?_; refine zp 6 106 ?_; refine zp 8 108 ?_; refine zp 10 110 ?_; refine zp 12 112 ?_; refine zp 14 114 ?_; refine zt 5 105 ?_; refine zt 7 107 ?_; refine zt 9 109 ?_; refine zt 11 111 ?_; refine zt 13 113 ?_; refine zt 15 115 ?_; refine zp 16 116 ?_; refine zt 17 117 ?_; refine zp 18 118 ?_
             refine join_ (σ := Value × Value × Value) 2 #[true, true, true, true, true, true, true, true, true, true, true, true, true, true, true, true, true, true, true, true, false, false] (fun s_ => [(100, s_.1), (102, s_.2.1), (119, s_.2.2)]) (fun s_ w' => (w'.cell? ⟨gb94, 0, none⟩ = some (.int .i64 ((rd_T48 t92 (ji48)).f0)) ∧ w'.cell? ⟨gb94, 1, none⟩ = some (.int .i64 ((rd_T48 t92 (ji48)).f1)) ∧ w'.cell? ⟨gb94, 2, none⟩ = some (.int .i64 ((rd_T48 t92 (ji48)).f2)) ∧ w'.cell? ⟨gb94, 3, none⟩ = some (.bool ((rd_T48 t92 (ji48)).f3)) ∧ w'.cell? ⟨gb94, 4, none⟩ = some (.int .i64 ((rd_T48 t92 (ji48)).f4)) ∧ w'.cell? ⟨gb94, 5, none⟩ = some (.bool ((rd_T48 t92 (ji48)).f5)) ∧ w'.cell? ⟨gb94, 6, none⟩ = some (.int .i64 ((rd_T48 t92 (ji48)).f6)) ∧ w'.cell? ⟨gb94, 7, none⟩ = some (.int .i64 ((rd_T48 t92 (ji48)).f7)) ∧ w'.cell? ⟨gb95, 0, none⟩ = some (.int .i64 t98) ∧ w'.cell? ⟨gb95, 1, none⟩ = some (.slice (some ad657) t97.length co12) ∧ w'.cell? ad657 = some (.int .i64 (rd t97 0))) ∧ (Kd.R k48 48 w' w.heap.size (fun k_ => some k_ ≠ (s_.2.2 : Value).ownBlock ∧ some k_ ≠ (.slice (some ad658) t92.length co8 : Value).ownBlock ∧ k_ ≠ gb94) s_.2.1 y663) ∧ (Kd.R k48 48 w' w.heap.size (fun k_ => some k_ ≠ (s_.2.1 : Value).ownBlock ∧ some k_ ≠ (.slice (some ad658) t92.length co8 : Value).ownBlock ∧ k_ ≠ gb94) s_.2.2 y667) ∧ (Kd.R k48 48 w' w.heap.size (fun k_ => some k_ ≠ (s_.2.1 : Value).ownBlock ∧ some k_ ≠ (s_.2.2 : Value).ownBlock ∧ k_ ≠ gb94) (.slice (some ad658) t92.length co8) t92) ∧ (Kd.R (Kd.int .i64) 2 w' w.heap.size (fun _ => True) (.slice (some ad657) t97.length co12) t97) ∧ (w'.heap[gb95]? = some (.cells #[.int .i64 t98, .slice (some ad657) t97.length co12] 35 (0, 0))) ∧ (w'.heap[gb94]? = some (.cells #[.int .i64 ((rd_T48 t92 (ji48)).f0), .int .i64 ((rd_T48 t92 (ji48)).f1), .int .i64 ((rd_T48 t92 (ji48)).f2), .bool ((rd_T48 t92 (ji48)).f3), .int .i64 ((rd_T48 t92 (ji48)).f4), .bool ((rd_T48 t92 (ji48)).f5), .int .i64 ((rd_T48 t92 (ji48)).f6), .int .i64 ((rd_T48 t92 (ji48)).f7)] 48 (0, 0))) ∧ (Below w.heap.size w w')) ?_ ?_
             rotate_left
             ·intro hCont
              refine two_ (i := 0) (j := 19) (Ni := some 100) (Nj := some 119) #[true, true, false, true, true, true, true, true, true, true, true, true, true, true, true, true, true, true, true, false, false, false] #[false, true, false, true, true, true, true, true, true, true, true, true, true, true, true, true, true, true, true, true, false, false] rfl rfl rfl rfl (two_of HT_.out (by kernel_rfl)) (by decide) (by decide) (fun K hK => ?_) (fun K hK => ?_)
              ·skip
               refine Kd.R_lit_step k48 _ 48 ?hg (N := 100) ?hd (xs := ([] : List (S48))) (inner := []) (ok := fun _ => True) (okp := fun _ => True) ?hr ?hp (fun _ hk => hk) trivial (Below.refl _ _) (Nat.le_refl _) (by simp) ?_; (case hd => rfl); (case hg => rfl); (case hr => first | (go_simp; done) | (go_simp; rfl)); (case hp => exact (Reps.none _ _))
               intro v661 w63 ho64 hb hg_ hnew_
               have HS10_ := (hb.cell (World.block_lt_of_cell? _ _ (hHeld.2.2.2.2.2.2.2.2.2.2))).trans (hHeld.2.2.2.2.2.2.2.2.2.2)
               clear hg_ hnew_
               (first | rw [← Ny660.out] at ho64 | (simp only [Int.reduceToNat] at ho64; rw [← Ny660.out] at ho64))
               have n0_ := Aside0.mk (Kd.R_elder' (by (with_reducible repeat (first | apply Kd.R_alloc | apply Kd.R_drewN | apply Kd.R_drew)); exact HO_3.out) (Kd.R_base ho64) hb)
               have n1_ := Aside0.mk (Kd.R_below (by (with_reducible repeat (first | apply Kd.R_alloc | apply Kd.R_drewN | apply Kd.R_drew)); exact HO_93.out) hb)
               have n2_ := Aside0.mk (Kd.R_lower (Kd.R_newB (Kd.R_new' ho64 (Kd.R_lt (by (with_reducible repeat (first | apply Kd.R_alloc | apply Kd.R_drewN | apply Kd.R_drew)); exact HO_3.out))) (g := gb94) (o := .cells #[.int .i64 ((rd_T48 t92 (ji48)).f0), .int .i64 ((rd_T48 t92 (ji48)).f1), .int .i64 ((rd_T48 t92 (ji48)).f2), .bool ((rd_T48 t92 (ji48)).f3), .int .i64 ((rd_T48 t92 (ji48)).f4), .bool ((rd_T48 t92 (ji48)).f5), .int .i64 ((rd_T48 t92 (ji48)).f6), .int .i64 ((rd_T48 t92 (ji48)).f7)] 48 (0, 0)) zk) (below_size zb))
               have n3_ := Aside0.mk (blk_below (g := gb95) (o := .cells #[.int .i64 t98, .slice (some ad657) t97.length co12] 35 (0, 0)) zk hb)
               have n4_ := Aside0.mk (blk_below (g := gb94) (o := .cells #[.int .i64 ((rd_T48 t92 (ji48)).f0), .int .i64 ((rd_T48 t92 (ji48)).f1), .int .i64 ((rd_T48 t92 (ji48)).f2), .bool ((rd_T48 t92 (ji48)).f3), .int .i64 ((rd_T48 t92 (ji48)).f4), .bool ((rd_T48 t92 (ji48)).f5), .int .i64 ((rd_T48 t92 (ji48)).f6), .int .i64 ((rd_T48 t92 (ji48)).f7)] 48 (0, 0)) zk hb)
               have n5_ := Aside0.mk (below_step zb hb)
               clear HO_3
               clear HO_93
               clear BK95
               clear BK94
               clear HB
               have HO_3 := n0_
               have HO_93 := n1_
               have HO662 := n2_
               have BK95 := n3_
               have BK94 := n4_
               have HB := n5_
               clear n0_ n1_ n2_ n3_ n4_ n5_
               clear hb ho64
               refine hK.out _ _ ⟨(blk_cell BK94.out 0).trans rfl, (blk_cell BK94.out 1).trans rfl, (blk_cell BK94.out 2).trans rfl, (blk_cell BK94.out 3).trans rfl, (blk_cell BK94.out 4).trans rfl, (blk_cell BK94.out 5).trans rfl, (blk_cell BK94.out 6).trans rfl, (blk_cell BK94.out 7).trans rfl, (blk_cell BK95.out 0).trans rfl, (blk_cell BK95.out 1).trans rfl, HS10_⟩ (fun hHeld => ?_)
               clear hK K
               refine norm_ (a' := ?_) ?_ ?_
               rotate_left
               ·show Act.put _ (some 100) _ = _
                simp only [Act.put, List.setIfInBounds_toArray, List.set_cons_zero, List.set_cons_succ, i64_w, i32_w]
                rfl
               refine two_ (i := 2) (j := 19) (Ni := some 102) (Nj := some 119) #[true, true, true, true, true, true, true, true, true, true, true, true, true, true, true, true, true, true, true, false, false, false] #[true, true, false, true, true, true, true, true, true, true, true, true, true, true, true, true, true, true, true, true, false, false] rfl rfl rfl rfl (two_of HT_.out (by kernel_rfl)) (by decide) (by decide) (fun K hK => ?_) (fun K hK => ?_)
               ·skip
                refine Kd.R_append_rows_step k48 (w0 := w) w.heap.size (by rfl) (.tmp 100) (.tmp 101) 37 48 (.agg #[(.int .i64 0), (.int .i64 0), (.int .i64 0), (.bool false), (.int .i64 0), (.bool false), (.int .i64 0), (.int .i64 0)]) 64 rfl Try.underlying37 info48 rfl (by decide) (by omega) v661 y660 t92 _ _ _ (fun k_ => some k_ ≠ (.slice (some ad658) t92.length co8 : Value).ownBlock ∧ k_ ≠ gb94) (fun _ => False) rfl rfl ?aO ?aR (fun _ _ h => h) (fun _ h => h.elim) ?aF ?aB ?aS ?aL ?_
                (case aR => repeat (first | exact (Kd.R_reads' HO_3.out).2.2 | (with_reducible first | refine Kd.C_alloc ?_ _ | refine Kd.C_drewN ?_ _ | refine Kd.C_drew ?_)))
                (case aB => exact zb)
                (case aF => exact (fun k_ hk => ⟨Kd.fresh' (Kd.R_lt (by (with_reducible repeat (first | apply Kd.R_alloc | apply Kd.R_drewN | apply Kd.R_drew)); exact HO_3.out)) k_ hk, Kd.freshB (g := gb94) (o := .cells #[.int .i64 ((rd_T48 t92 (ji48)).f0), .int .i64 ((rd_T48 t92 (ji48)).f1), .int .i64 ((rd_T48 t92 (ji48)).f2), .bool ((rd_T48 t92 (ji48)).f3), .int .i64 ((rd_T48 t92 (ji48)).f4), .bool ((rd_T48 t92 (ji48)).f5), .int .i64 ((rd_T48 t92 (ji48)).f6), .int .i64 ((rd_T48 t92 (ji48)).f7)] 48 (0, 0)) zk k_ hk⟩))
                (case aO => exact (by (with_reducible repeat (first | apply Kd.R_alloc | apply Kd.R_drewN | apply Kd.R_drew)); exact Kd.R_mono HO662.out (fun _ hk => ⟨hk.1.2, hk.2⟩)))
                (case aS => exact (below_size zb))
                (case aL => have := LMc51.out; omega)
                intro v664 w65 ho hb hg hat
                have HS10_ := cell_grown hg (hHeld.2.2.2.2.2.2.2.2.2.2) (zA HO_93 HO662)
                rw [← Ny663.out] at ho
                have n0_ := Aside0.mk (Kd.R_after (ok := (fun k_ => k_ ≠ gb94)) (by (with_reducible repeat (first | apply Kd.R_alloc | apply Kd.R_drewN | apply Kd.R_drew)); exact HO_3.out) hg hat)
                have n1_ := Aside0.mk (Kd.R_over' (by (with_reducible repeat (first | apply Kd.R_alloc | apply Kd.R_drewN | apply Kd.R_drew)); exact HO_93.out) (Kd.R_typed (by (with_reducible repeat (first | apply Kd.R_alloc | apply Kd.R_drewN | apply Kd.R_drew)); exact HO662.out)) (by decide) hg)
                have n2_ := Aside0.mk (blk_grown (g := gb95) (o := .cells #[.int .i64 t98, .slice (some ad657) t97.length co12] 35 (0, 0)) zk hg (Kd.R_ne HO662.out BK95.out (by decide)))
                have n3_ := Aside0.mk (blk_grown (g := gb94) (o := .cells #[.int .i64 ((rd_T48 t92 (ji48)).f0), .int .i64 ((rd_T48 t92 (ji48)).f1), .int .i64 ((rd_T48 t92 (ji48)).f2), .bool ((rd_T48 t92 (ji48)).f3), .int .i64 ((rd_T48 t92 (ji48)).f4), .bool ((rd_T48 t92 (ji48)).f5), .int .i64 ((rd_T48 t92 (ji48)).f6), .int .i64 ((rd_T48 t92 (ji48)).f7)] 48 (0, 0)) zk hg (Kd.R_away HO662.out (fun _ hk => hk.2)))
                have n4_ := Aside0.mk (hb)
                have n5_ := Aside0.mk (ho)
                clear HO_3
                clear HO_93
                clear BK95
                clear BK94
                clear HB
                clear HO662
                have HO_3 := n0_
                have HO_93 := n1_
                have BK95 := n2_
                have BK94 := n3_
                have HB := n4_
                have HO665 := n5_
                clear n0_ n1_ n2_ n3_ n4_ n5_
                clear ho hb hg hat
                refine hK.out _ _ ⟨(blk_cell BK94.out 0).trans rfl, (blk_cell BK94.out 1).trans rfl, (blk_cell BK94.out 2).trans rfl, (blk_cell BK94.out 3).trans rfl, (blk_cell BK94.out 4).trans rfl, (blk_cell BK94.out 5).trans rfl, (blk_cell BK94.out 6).trans rfl, (blk_cell BK94.out 7).trans rfl, (blk_cell BK95.out 0).trans rfl, (blk_cell BK95.out 1).trans rfl, HS10_⟩ (fun hHeld => ?_)
                clear hK K
                refine norm_ (a' := ?_) ?_ ?_
                rotate_left
                ·show Act.put _ (some 102) _ = _
                 simp only [Act.put, List.setIfInBounds_toArray, List.set_cons_zero, List.set_cons_succ, i64_w, i32_w]
                 rfl
                refine one_ (i := 19) (N := some 119) #[true, true, true, true, true, true, true, true, true, true, true, true, true, true, true, true, true, true, true, true, false, false] rfl rfl (one_of HT_.out (by kernel_rfl)) (by decide) (fun K hK => ?_)
                refine Kd.R_lit_step k48 _ 48 ?hg (N := 119) ?hd (xs := ([(⟨5, t636, (rd_T48 t92 (ji48)).f2, (rd_T48 t92 (ji48)).f5, (rd_T48 t92 (ji48)).f6, (rd_T48 t92 (ji48)).f3, (rd_T48 t92 (ji48)).f4, rd t97 0⟩ : S48)] : List (S48))) (inner := [.int .i64 5, .int .i64 t636, .int .i64 ((rd_T48 t92 (ji48)).f2), .bool ((rd_T48 t92 (ji48)).f5), .int .i64 ((rd_T48 t92 (ji48)).f6), .bool ((rd_T48 t92 (ji48)).f3), .int .i64 ((rd_T48 t92 (ji48)).f4), .int .i64 (rd t97 0)]) (ok := fun _ => True) (okp := fun _ => True) ?hr ?hp (fun _ hk => hk) trivial (Below.refl _ _) (Nat.le_refl _) (by simp) ?_; (case hd => rfl); (case hg => rfl); (case hr => first | (go_simp; done) | (go_simp; rfl)); (case hp => exact (Reps.c8 (show Kd.M k48 _ _ _ (⟨5, t636, (rd_T48 t92 (ji48)).f2, (rd_T48 t92 (ji48)).f5, (rd_T48 t92 (ji48)).f6, (rd_T48 t92 (ji48)).f3, (rd_T48 t92 (ji48)).f4, rd t97 0⟩ : S48) [.int .i64 5, .int .i64 t636, .int .i64 ((rd_T48 t92 (ji48)).f2), .bool ((rd_T48 t92 (ji48)).f5), .int .i64 ((rd_T48 t92 (ji48)).f6), .bool ((rd_T48 t92 (ji48)).f3), .int .i64 ((rd_T48 t92 (ji48)).f4), .int .i64 (rd t97 0)] from (k48_mkM _ _ _ (⟨5, t636, (rd_T48 t92 (ji48)).f2, (rd_T48 t92 (ji48)).f5, (rd_T48 t92 (ji48)).f6, (rd_T48 t92 (ji48)).f3, (rd_T48 t92 (ji48)).f4, rd t97 0⟩ : S48) )) (Reps.none _ _)))
                intro v668 w66 ho67 hb hg_ hnew_
                have HS10_ := (hb.cell (World.block_lt_of_cell? _ _ (hHeld.2.2.2.2.2.2.2.2.2.2))).trans (hHeld.2.2.2.2.2.2.2.2.2.2)
                clear hg_ hnew_
                (first | rw [← Ny667.out] at ho67 | (simp only [Int.reduceToNat] at ho67; rw [← Ny667.out] at ho67))
                have n0_ := Aside0.mk (Kd.R_elder' (by (with_reducible repeat (first | apply Kd.R_alloc | apply Kd.R_drewN | apply Kd.R_drew)); exact HO_3.out) (Kd.R_base ho67) hb)
                have n1_ := Aside0.mk (Kd.R_below (by (with_reducible repeat (first | apply Kd.R_alloc | apply Kd.R_drewN | apply Kd.R_drew)); exact HO_93.out) hb)
                have n2_ := Aside0.mk (Kd.R_elder' (by (with_reducible repeat (first | apply Kd.R_alloc | apply Kd.R_drewN | apply Kd.R_drew)); exact HO665.out) (Kd.R_base ho67) hb)
                have n3_ := Aside0.mk (Kd.R_lower (Kd.R_newB (Kd.R_new' (Kd.R_new' ho67 (Kd.R_lt (by (with_reducible repeat (first | apply Kd.R_alloc | apply Kd.R_drewN | apply Kd.R_drew)); exact HO_3.out))) (Kd.R_lt (by (with_reducible repeat (first | apply Kd.R_alloc | apply Kd.R_drewN | apply Kd.R_drew)); exact HO665.out))) (g := gb94) (o := .cells #[.int .i64 ((rd_T48 t92 (ji48)).f0), .int .i64 ((rd_T48 t92 (ji48)).f1), .int .i64 ((rd_T48 t92 (ji48)).f2), .bool ((rd_T48 t92 (ji48)).f3), .int .i64 ((rd_T48 t92 (ji48)).f4), .bool ((rd_T48 t92 (ji48)).f5), .int .i64 ((rd_T48 t92 (ji48)).f6), .int .i64 ((rd_T48 t92 (ji48)).f7)] 48 (0, 0)) zk) (below_size zb))
                have n4_ := Aside0.mk (blk_below (g := gb95) (o := .cells #[.int .i64 t98, .slice (some ad657) t97.length co12] 35 (0, 0)) zk hb)
                have n5_ := Aside0.mk (blk_below (g := gb94) (o := .cells #[.int .i64 ((rd_T48 t92 (ji48)).f0), .int .i64 ((rd_T48 t92 (ji48)).f1), .int .i64 ((rd_T48 t92 (ji48)).f2), .bool ((rd_T48 t92 (ji48)).f3), .int .i64 ((rd_T48 t92 (ji48)).f4), .bool ((rd_T48 t92 (ji48)).f5), .int .i64 ((rd_T48 t92 (ji48)).f6), .int .i64 ((rd_T48 t92 (ji48)).f7)] 48 (0, 0)) zk hb)
                have n6_ := Aside0.mk (below_step zb hb)
                clear HO_3
                clear HO_93
                clear HO665
                clear BK95
                clear BK94
                clear HB
                have HO_3 := n0_
                have HO_93 := n1_
                have HO665 := n2_
                have HO669 := n3_
                have BK95 := n4_
                have BK94 := n5_
                have HB := n6_
                clear n0_ n1_ n2_ n3_ n4_ n5_ n6_
                clear hb ho67
                refine hK.out _ _ ⟨(blk_cell BK94.out 0).trans rfl, (blk_cell BK94.out 1).trans rfl, (blk_cell BK94.out 2).trans rfl, (blk_cell BK94.out 3).trans rfl, (blk_cell BK94.out 4).trans rfl, (blk_cell BK94.out 5).trans rfl, (blk_cell BK94.out 6).trans rfl, (blk_cell BK94.out 7).trans rfl, (blk_cell BK95.out 0).trans rfl, (blk_cell BK95.out 1).trans rfl, HS10_⟩ (fun hHeld => ?_)
                clear hK K
                refine norm_ (a' := ?_) ?_ ?_
                rotate_left
                ·show Act.put _ (some 119) _ = _
                 simp only [Act.put, List.setIfInBounds_toArray, List.set_cons_zero, List.set_cons_succ, i64_w, i32_w]
                 rfl
                exact norm_ (by simp only [putAll, Act.put, List.setIfInBounds_toArray, List.set_cons_zero, List.set_cons_succ]) (hCont (v661, v664, v668) _ ⟨hHeld, (by (with_reducible repeat (first | apply Kd.R_alloc | apply Kd.R_drewN | apply Kd.R_drew)); exact Kd.R_mono HO665.out (fun _ hk => ⟨hk.2, ⟨hk.1.1, hk.1.2⟩⟩)), (by (with_reducible repeat (first | apply Kd.R_alloc | apply Kd.R_drewN | apply Kd.R_drew)); exact Kd.R_mono HO669.out (fun _ hk => ⟨hk.1.2, ⟨hk.1.1.2, hk.2⟩⟩)), (by (with_reducible repeat (first | apply Kd.R_alloc | apply Kd.R_drewN | apply Kd.R_drew)); exact Kd.R_mono HO_3.out (fun _ hk => ⟨hk.1.2, ⟨hk.2, hk.1.1⟩⟩)), (by (with_reducible repeat (first | apply Kd.R_alloc | apply Kd.R_drewN | apply Kd.R_drew)); exact HO_93.out), zk, zk, zb⟩)
               skip
               refine Kd.R_lit_step k48 _ 48 ?hg (N := 119) ?hd (xs := ([(⟨5, t636, (rd_T48 t92 (ji48)).f2, (rd_T48 t92 (ji48)).f5, (rd_T48 t92 (ji48)).f6, (rd_T48 t92 (ji48)).f3, (rd_T48 t92 (ji48)).f4, rd t97 0⟩ : S48)] : List (S48))) (inner := [.int .i64 5, .int .i64 t636, .int .i64 ((rd_T48 t92 (ji48)).f2), .bool ((rd_T48 t92 (ji48)).f5), .int .i64 ((rd_T48 t92 (ji48)).f6), .bool ((rd_T48 t92 (ji48)).f3), .int .i64 ((rd_T48 t92 (ji48)).f4), .int .i64 (rd t97 0)]) (ok := fun _ => True) (okp := fun _ => True) ?hr ?hp (fun _ hk => hk) trivial (Below.refl _ _) (Nat.le_refl _) (by simp) ?_; (case hd => rfl); (case hg => rfl); (case hr => first | (go_simp; done) | (go_simp; rfl)); (case hp => exact (Reps.c8 (show Kd.M k48 _ _ _ (⟨5, t636, (rd_T48 t92 (ji48)).f2, (rd_T48 t92 (ji48)).f5, (rd_T48 t92 (ji48)).f6, (rd_T48 t92 (ji48)).f3, (rd_T48 t92 (ji48)).f4, rd t97 0⟩ : S48) [.int .i64 5, .int .i64 t636, .int .i64 ((rd_T48 t92 (ji48)).f2), .bool ((rd_T48 t92 (ji48)).f5), .int .i64 ((rd_T48 t92 (ji48)).f6), .bool ((rd_T48 t92 (ji48)).f3), .int .i64 ((rd_T48 t92 (ji48)).f4), .int .i64 (rd t97 0)] from (k48_mkM _ _ _ (⟨5, t636, (rd_T48 t92 (ji48)).f2, (rd_T48 t92 (ji48)).f5, (rd_T48 t92 (ji48)).f6, (rd_T48 t92 (ji48)).f3, (rd_T48 t92 (ji48)).f4, rd t97 0⟩ : S48) )) (Reps.none _ _)))
               intro v668 w65 ho66 hb hg_ hnew_
               have HS10_ := (hb.cell (World.block_lt_of_cell? _ _ (hHeld.2.2.2.2.2.2.2.2.2.2))).trans (hHeld.2.2.2.2.2.2.2.2.2.2)
               clear hg_ hnew_
               (first | rw [← Ny667.out] at ho66 | (simp only [Int.reduceToNat] at ho66; rw [← Ny667.out] at ho66))
               have n0_ := Aside0.mk (Kd.R_elder' (by (with_reducible repeat (first | apply Kd.R_alloc | apply Kd.R_drewN | apply Kd.R_drew)); exact HO_3.out) (Kd.R_base ho66) hb)
               have n1_ := Aside0.mk (Kd.R_below (by (with_reducible repeat (first | apply Kd.R_alloc | apply Kd.R_drewN | apply Kd.R_drew)); exact HO_93.out) hb)
               have n2_ := Aside0.mk (Kd.R_elder' (by (with_reducible repeat (first | apply Kd.R_alloc | apply Kd.R_drewN | apply Kd.R_drew)); exact HO662.out) (Kd.R_base ho66) hb)
               have n3_ := Aside0.mk (Kd.R_lower (Kd.R_newB (Kd.R_new' (Kd.R_new' ho66 (Kd.R_lt (by (with_reducible repeat (first | apply Kd.R_alloc | apply Kd.R_drewN | apply Kd.R_drew)); exact HO_3.out))) (Kd.R_lt (by (with_reducible repeat (first | apply Kd.R_alloc | apply Kd.R_drewN | apply Kd.R_drew)); exact HO662.out))) (g := gb94) (o := .cells #[.int .i64 ((rd_T48 t92 (ji48)).f0), .int .i64 ((rd_T48 t92 (ji48)).f1), .int .i64 ((rd_T48 t92 (ji48)).f2), .bool ((rd_T48 t92 (ji48)).f3), .int .i64 ((rd_T48 t92 (ji48)).f4), .bool ((rd_T48 t92 (ji48)).f5), .int .i64 ((rd_T48 t92 (ji48)).f6), .int .i64 ((rd_T48 t92 (ji48)).f7)] 48 (0, 0)) zk) (below_size zb))
               have n4_ := Aside0.mk (blk_below (g := gb95) (o := .cells #[.int .i64 t98, .slice (some ad657) t97.length co12] 35 (0, 0)) zk hb)
               have n5_ := Aside0.mk (blk_below (g := gb94) (o := .cells #[.int .i64 ((rd_T48 t92 (ji48)).f0), .int .i64 ((rd_T48 t92 (ji48)).f1), .int .i64 ((rd_T48 t92 (ji48)).f2), .bool ((rd_T48 t92 (ji48)).f3), .int .i64 ((rd_T48 t92 (ji48)).f4), .bool ((rd_T48 t92 (ji48)).f5), .int .i64 ((rd_T48 t92 (ji48)).f6), .int .i64 ((rd_T48 t92 (ji48)).f7)] 48 (0, 0)) zk hb)
               have n6_ := Aside0.mk (below_step zb hb)
               clear HO_3
               clear HO_93
               clear HO662
               clear BK95
               clear BK94
               clear HB
               have HO_3 := n0_
               have HO_93 := n1_
               have HO662 := n2_
               have HO669 := n3_
               have BK95 := n4_
               have BK94 := n5_
               have HB := n6_
               clear n0_ n1_ n2_ n3_ n4_ n5_ n6_
               clear hb ho66
               refine hK.out _ _ ⟨(blk_cell BK94.out 0).trans rfl, (blk_cell BK94.out 1).trans rfl, (blk_cell BK94.out 2).trans rfl, (blk_cell BK94.out 3).trans rfl, (blk_cell BK94.out 4).trans rfl, (blk_cell BK94.out 5).trans rfl, (blk_cell BK94.out 6).trans rfl, (blk_cell BK94.out 7).trans rfl, (blk_cell BK95.out 0).trans rfl, (blk_cell BK95.out 1).trans rfl, HS10_⟩ (fun hHeld => ?_)
               clear hK K
               refine norm_ (a' := ?_) ?_ ?_
               rotate_left
               ·show Act.put _ (some 119) _ = _
                simp only [Act.put, List.setIfInBounds_toArray, List.set_cons_zero, List.set_cons_succ, i64_w, i32_w]
                rfl
               refine one_ (i := 2) (N := some 102) #[true, true, true, true, true, true, true, true, true, true, true, true, true, true, true, true, true, true, true, true, false, false] rfl rfl (one_of HT_.out (by kernel_rfl)) (by decide) (fun K hK => ?_)
               refine Kd.R_append_rows_step k48 (w0 := w) w.heap.size (by rfl) (.tmp 100) (.tmp 101) 37 48 (.agg #[(.int .i64 0), (.int .i64 0), (.int .i64 0), (.bool false), (.int .i64 0), (.bool false), (.int .i64 0), (.int .i64 0)]) 64 rfl Try.underlying37 info48 rfl (by decide) (by omega) v661 y660 t92 _ _ _ (fun k_ => some k_ ≠ (.slice (some ad658) t92.length co8 : Value).ownBlock ∧ some k_ ≠ (v668 : Value).ownBlock ∧ k_ ≠ gb94) (fun _ => False) rfl rfl ?aO ?aR (fun _ _ h => h) (fun _ h => h.elim) ?aF ?aB ?aS ?aL ?_
               (case aR => repeat (first | exact (Kd.R_reads' HO_3.out).2.2 | (with_reducible first | refine Kd.C_alloc ?_ _ | refine Kd.C_drewN ?_ _ | refine Kd.C_drew ?_)))
               (case aB => exact zb)
               (case aF => exact (fun k_ hk => ⟨Kd.fresh' (Kd.R_lt (by (with_reducible repeat (first | apply Kd.R_alloc | apply Kd.R_drewN | apply Kd.R_drew)); exact HO_3.out)) k_ hk, Kd.fresh' (Kd.R_lt (by (with_reducible repeat (first | apply Kd.R_alloc | apply Kd.R_drewN | apply Kd.R_drew)); exact HO669.out)) k_ hk, Kd.freshB (g := gb94) (o := .cells #[.int .i64 ((rd_T48 t92 (ji48)).f0), .int .i64 ((rd_T48 t92 (ji48)).f1), .int .i64 ((rd_T48 t92 (ji48)).f2), .bool ((rd_T48 t92 (ji48)).f3), .int .i64 ((rd_T48 t92 (ji48)).f4), .bool ((rd_T48 t92 (ji48)).f5), .int .i64 ((rd_T48 t92 (ji48)).f6), .int .i64 ((rd_T48 t92 (ji48)).f7)] 48 (0, 0)) zk k_ hk⟩))
               (case aO => exact (by (with_reducible repeat (first | apply Kd.R_alloc | apply Kd.R_drewN | apply Kd.R_drew)); exact Kd.R_mono HO662.out (fun _ hk => ⟨hk.1.1.2, ⟨hk.2, hk.1.2⟩⟩)))
               (case aS => exact (below_size zb))
               (case aL => have := LMc51.out; omega)
               intro v664 w67 ho hb hg hat
               have HS10_ := cell_grown hg (hHeld.2.2.2.2.2.2.2.2.2.2) (zA HO_93 HO662)
               rw [← Ny663.out] at ho
               have n0_ := Aside0.mk (Kd.R_after (ok := (fun k_ => some k_ ≠ (v668 : Value).ownBlock ∧ k_ ≠ gb94)) (by (with_reducible repeat (first | apply Kd.R_alloc | apply Kd.R_drewN | apply Kd.R_drew)); exact Kd.R_mono HO_3.out (fun _ hk => ⟨⟨hk.2, hk.1.1⟩, hk.1.2⟩)) hg hat)
               have n1_ := Aside0.mk (Kd.R_over' (by (with_reducible repeat (first | apply Kd.R_alloc | apply Kd.R_drewN | apply Kd.R_drew)); exact HO_93.out) (Kd.R_typed (by (with_reducible repeat (first | apply Kd.R_alloc | apply Kd.R_drewN | apply Kd.R_drew)); exact HO662.out)) (by decide) hg)
               have n2_ := Aside0.mk (blk_grown (g := gb95) (o := .cells #[.int .i64 t98, .slice (some ad657) t97.length co12] 35 (0, 0)) zk hg (Kd.R_ne HO662.out BK95.out (by decide)))
               have n3_ := Aside0.mk (blk_grown (g := gb94) (o := .cells #[.int .i64 ((rd_T48 t92 (ji48)).f0), .int .i64 ((rd_T48 t92 (ji48)).f1), .int .i64 ((rd_T48 t92 (ji48)).f2), .bool ((rd_T48 t92 (ji48)).f3), .int .i64 ((rd_T48 t92 (ji48)).f4), .bool ((rd_T48 t92 (ji48)).f5), .int .i64 ((rd_T48 t92 (ji48)).f6), .int .i64 ((rd_T48 t92 (ji48)).f7)] 48 (0, 0)) zk hg (Kd.R_away HO662.out (fun _ hk => hk.1.2)))
               have n4_ := Aside0.mk (Kd.R_after (ok := (fun k_ => some k_ ≠ (.slice (some ad658) t92.length co8 : Value).ownBlock ∧ k_ ≠ gb94)) (by (with_reducible repeat (first | apply Kd.R_alloc | apply Kd.R_drewN | apply Kd.R_drew)); exact Kd.R_mono HO669.out (fun _ hk => ⟨⟨hk.1.1.2, hk.2⟩, hk.1.2⟩)) hg hat)
               have n5_ := Aside0.mk (hb)
               have n6_ := Aside0.mk (ho)
               clear HO_3
               clear HO_93
               clear BK95
               clear BK94
               clear HO669
               clear HB
               clear HO662
               have HO_3 := n0_
               have HO_93 := n1_
               have BK95 := n2_
               have BK94 := n3_
               have HO669 := n4_
               have HB := n5_
               have HO665 := n6_
               clear n0_ n1_ n2_ n3_ n4_ n5_ n6_
               clear ho hb hg hat
               refine hK.out _ _ ⟨(blk_cell BK94.out 0).trans rfl, (blk_cell BK94.out 1).trans rfl, (blk_cell BK94.out 2).trans rfl, (blk_cell BK94.out 3).trans rfl, (blk_cell BK94.out 4).trans rfl, (blk_cell BK94.out 5).trans rfl, (blk_cell BK94.out 6).trans rfl, (blk_cell BK94.out 7).trans rfl, (blk_cell BK95.out 0).trans rfl, (blk_cell BK95.out 1).trans rfl, HS10_⟩ (fun hHeld => ?_)
               clear hK K
               refine norm_ (a' := ?_) ?_ ?_
               rotate_left
               ·show Act.put _ (some 102) _ = _
                simp only [Act.put, List.setIfInBounds_toArray, List.set_cons_zero, List.set_cons_succ, i64_w, i32_w]
                rfl
               exact norm_ (by simp only [putAll, Act.put, List.setIfInBounds_toArray, List.set_cons_zero, List.set_cons_succ]) (hCont (v661, v664, v668) _ ⟨hHeld, (by (with_reducible repeat (first | apply Kd.R_alloc | apply Kd.R_drewN | apply Kd.R_drew)); exact Kd.R_mono HO665.out (fun _ hk => ⟨hk.2.1, ⟨hk.1, hk.2.2⟩⟩)), (by (with_reducible repeat (first | apply Kd.R_alloc | apply Kd.R_drewN | apply Kd.R_drew)); exact Kd.R_mono HO669.out (fun _ hk => ⟨hk.2, ⟨hk.1.1, hk.1.2⟩⟩)), (by (with_reducible repeat (first | apply Kd.R_alloc | apply Kd.R_drewN | apply Kd.R_drew)); exact Kd.R_mono HO_3.out (fun _ hk => ⟨hk.2, ⟨hk.1.1, hk.1.2⟩⟩)), (by (with_reducible repeat (first | apply Kd.R_alloc | apply Kd.R_drewN | apply Kd.R_drew)); exact HO_93.out), zk, zk, zb⟩)
              skip
              refine Kd.R_lit_step k48 _ 48 ?hg (N := 119) ?hd (xs := ([(⟨5, t636, (rd_T48 t92 (ji48)).f2, (rd_T48 t92 (ji48)).f5, (rd_T48 t92 (ji48)).f6, (rd_T48 t92 (ji48)).f3, (rd_T48 t92 (ji48)).f4, rd t97 0⟩ : S48)] : List (S48))) (inner := [.int .i64 5, .int .i64 t636, .int .i64 ((rd_T48 t92 (ji48)).f2), .bool ((rd_T48 t92 (ji48)).f5), .int .i64 ((rd_T48 t92 (ji48)).f6), .bool ((rd_T48 t92 (ji48)).f3), .int .i64 ((rd_T48 t92 (ji48)).f4), .int .i64 (rd t97 0)]) (ok := fun _ => True) (okp := fun _ => True) ?hr ?hp (fun _ hk => hk) trivial (Below.refl _ _) (Nat.le_refl _) (by simp) ?_; (case hd => rfl); (case hg => rfl); (case hr => first | (go_simp; done) | (go_simp; rfl)); (case hp => exact (Reps.c8 (show Kd.M k48 _ _ _ (⟨5, t636, (rd_T48 t92 (ji48)).f2, (rd_T48 t92 (ji48)).f5, (rd_T48 t92 (ji48)).f6, (rd_T48 t92 (ji48)).f3, (rd_T48 t92 (ji48)).f4, rd t97 0⟩ : S48) [.int .i64 5, .int .i64 t636, .int .i64 ((rd_T48 t92 (ji48)).f2), .bool ((rd_T48 t92 (ji48)).f5), .int .i64 ((rd_T48 t92 (ji48)).f6), .bool ((rd_T48 t92 (ji48)).f3), .int .i64 ((rd_T48 t92 (ji48)).f4), .int .i64 (rd t97 0)] from (k48_mkM _ _ _ (⟨5, t636, (rd_T48 t92 (ji48)).f2, (rd_T48 t92 (ji48)).f5, (rd_T48 t92 (ji48)).f6, (rd_T48 t92 (ji48)).f3, (rd_T48 t92 (ji48)).f4, rd t97 0⟩ : S48) )) (Reps.none _ _)))
              intro v668 w63 ho64 hb hg_ hnew_
              have HS10_ := (hb.cell (World.block_lt_of_cell? _ _ (hHeld.2.2.2.2.2.2.2.2.2.2))).trans (hHeld.2.2.2.2.2.2.2.2.2.2)
              clear hg_ hnew_
              (first | rw [← Ny667.out] at ho64 | (simp only [Int.reduceToNat] at ho64; rw [← Ny667.out] at ho64))
              have n0_ := Aside0.mk (Kd.R_elder' (by (with_reducible repeat (first | apply Kd.R_alloc | apply Kd.R_drewN | apply Kd.R_drew)); exact HO_3.out) (Kd.R_base ho64) hb)
              have n1_ := Aside0.mk (Kd.R_below (by (with_reducible repeat (first | apply Kd.R_alloc | apply Kd.R_drewN | apply Kd.R_drew)); exact HO_93.out) hb)
              have n2_ := Aside0.mk (Kd.R_lower (Kd.R_newB (Kd.R_new' ho64 (Kd.R_lt (by (with_reducible repeat (first | apply Kd.R_alloc | apply Kd.R_drewN | apply Kd.R_drew)); exact HO_3.out))) (g := gb94) (o := .cells #[.int .i64 ((rd_T48 t92 (ji48)).f0), .int .i64 ((rd_T48 t92 (ji48)).f1), .int .i64 ((rd_T48 t92 (ji48)).f2), .bool ((rd_T48 t92 (ji48)).f3), .int .i64 ((rd_T48 t92 (ji48)).f4), .bool ((rd_T48 t92 (ji48)).f5), .int .i64 ((rd_T48 t92 (ji48)).f6), .int .i64 ((rd_T48 t92 (ji48)).f7)] 48 (0, 0)) zk) (below_size zb))
              have n3_ := Aside0.mk (blk_below (g := gb95) (o := .cells #[.int .i64 t98, .slice (some ad657) t97.length co12] 35 (0, 0)) zk hb)
              have n4_ := Aside0.mk (blk_below (g := gb94) (o := .cells #[.int .i64 ((rd_T48 t92 (ji48)).f0), .int .i64 ((rd_T48 t92 (ji48)).f1), .int .i64 ((rd_T48 t92 (ji48)).f2), .bool ((rd_T48 t92 (ji48)).f3), .int .i64 ((rd_T48 t92 (ji48)).f4), .bool ((rd_T48 t92 (ji48)).f5), .int .i64 ((rd_T48 t92 (ji48)).f6), .int .i64 ((rd_T48 t92 (ji48)).f7)] 48 (0, 0)) zk hb)
              have n5_ := Aside0.mk (below_step zb hb)
              clear HO_3
              clear HO_93
              clear BK95
              clear BK94
              clear HB
              have HO_3 := n0_
              have HO_93 := n1_
              have HO669 := n2_
              have BK95 := n3_
              have BK94 := n4_
              have HB := n5_
              clear n0_ n1_ n2_ n3_ n4_ n5_
              clear hb ho64
              refine hK.out _ _ ⟨(blk_cell BK94.out 0).trans rfl, (blk_cell BK94.out 1).trans rfl, (blk_cell BK94.out 2).trans rfl, (blk_cell BK94.out 3).trans rfl, (blk_cell BK94.out 4).trans rfl, (blk_cell BK94.out 5).trans rfl, (blk_cell BK94.out 6).trans rfl, (blk_cell BK94.out 7).trans rfl, (blk_cell BK95.out 0).trans rfl, (blk_cell BK95.out 1).trans rfl, HS10_⟩ (fun hHeld => ?_)
              clear hK K
              refine norm_ (a' := ?_) ?_ ?_
              rotate_left
              ·show Act.put _ (some 119) _ = _
               simp only [Act.put, List.setIfInBounds_toArray, List.set_cons_zero, List.set_cons_succ, i64_w, i32_w]
               rfl
              refine one_ (i := 0) (N := some 100) #[true, true, false, true, true, true, true, true, true, true, true, true, true, true, true, true, true, true, true, true, false, false] rfl rfl (one_of HT_.out (by kernel_rfl)) (by decide) (fun K hK => ?_)
              refine Kd.R_lit_step k48 _ 48 ?hg (N := 100) ?hd (xs := ([] : List (S48))) (inner := []) (ok := fun _ => True) (okp := fun _ => True) ?hr ?hp (fun _ hk => hk) trivial (Below.refl _ _) (Nat.le_refl _) (by simp) ?_; (case hd => rfl); (case hg => rfl); (case hr => first | (go_simp; done) | (go_simp; rfl)); (case hp => exact (Reps.none _ _))
              intro v661 w65 ho66 hb hg_ hnew_
              have HS10_ := (hb.cell (World.block_lt_of_cell? _ _ (hHeld.2.2.2.2.2.2.2.2.2.2))).trans (hHeld.2.2.2.2.2.2.2.2.2.2)
              clear hg_ hnew_
              (first | rw [← Ny660.out] at ho66 | (simp only [Int.reduceToNat] at ho66; rw [← Ny660.out] at ho66))
              have n0_ := Aside0.mk (Kd.R_elder' (by (with_reducible repeat (first | apply Kd.R_alloc | apply Kd.R_drewN | apply Kd.R_drew)); exact HO_3.out) (Kd.R_base ho66) hb)
              have n1_ := Aside0.mk (Kd.R_below (by (with_reducible repeat (first | apply Kd.R_alloc | apply Kd.R_drewN | apply Kd.R_drew)); exact HO_93.out) hb)
              have n2_ := Aside0.mk (Kd.R_elder' (by (with_reducible repeat (first | apply Kd.R_alloc | apply Kd.R_drewN | apply Kd.R_drew)); exact HO669.out) (Kd.R_base ho66) hb)
              have n3_ := Aside0.mk (Kd.R_lower (Kd.R_newB (Kd.R_new' (Kd.R_new' ho66 (Kd.R_lt (by (with_reducible repeat (first | apply Kd.R_alloc | apply Kd.R_drewN | apply Kd.R_drew)); exact HO_3.out))) (Kd.R_lt (by (with_reducible repeat (first | apply Kd.R_alloc | apply Kd.R_drewN | apply Kd.R_drew)); exact HO669.out))) (g := gb94) (o := .cells #[.int .i64 ((rd_T48 t92 (ji48)).f0), .int .i64 ((rd_T48 t92 (ji48)).f1), .int .i64 ((rd_T48 t92 (ji48)).f2), .bool ((rd_T48 t92 (ji48)).f3), .int .i64 ((rd_T48 t92 (ji48)).f4), .bool ((rd_T48 t92 (ji48)).f5), .int .i64 ((rd_T48 t92 (ji48)).f6), .int .i64 ((rd_T48 t92 (ji48)).f7)] 48 (0, 0)) zk) (below_size zb))
              have n4_ := Aside0.mk (blk_below (g := gb95) (o := .cells #[.int .i64 t98, .slice (some ad657) t97.length co12] 35 (0, 0)) zk hb)
              have n5_ := Aside0.mk (blk_below (g := gb94) (o := .cells #[.int .i64 ((rd_T48 t92 (ji48)).f0), .int .i64 ((rd_T48 t92 (ji48)).f1), .int .i64 ((rd_T48 t92 (ji48)).f2), .bool ((rd_T48 t92 (ji48)).f3), .int .i64 ((rd_T48 t92 (ji48)).f4), .bool ((rd_T48 t92 (ji48)).f5), .int .i64 ((rd_T48 t92 (ji48)).f6), .int .i64 ((rd_T48 t92 (ji48)).f7)] 48 (0, 0)) zk hb)
              have n6_ := Aside0.mk (below_step zb hb)
              clear HO_3
              clear HO_93
              clear HO669
              clear BK95
              clear BK94
              clear HB
              have HO_3 := n0_
              have HO_93 := n1_
              have HO669 := n2_
              have HO662 := n3_
              have BK95 := n4_
              have BK94 := n5_
              have HB := n6_
              clear n0_ n1_ n2_ n3_ n4_ n5_ n6_
              clear hb ho66
              refine hK.out _ _ ⟨(blk_cell BK94.out 0).trans rfl, (blk_cell BK94.out 1).trans rfl, (blk_cell BK94.out 2).trans rfl, (blk_cell BK94.out 3).trans rfl, (blk_cell BK94.out 4).trans rfl, (blk_cell BK94.out 5).trans rfl, (blk_cell BK94.out 6).trans rfl, (blk_cell BK94.out 7).trans rfl, (blk_cell BK95.out 0).trans rfl, (blk_cell BK95.out 1).trans rfl, HS10_⟩ (fun hHeld => ?_)
              clear hK K
              refine norm_ (a' := ?_) ?_ ?_
              rotate_left
              ·show Act.put _ (some 100) _ = _
               simp only [Act.put, List.setIfInBounds_toArray, List.set_cons_zero, List.set_cons_succ, i64_w, i32_w]
               rfl
              refine one_ (i := 2) (N := some 102) #[true, true, true, true, true, true, true, true, true, true, true, true, true, true, true, true, true, true, true, true, false, false] rfl rfl (one_of HT_.out (by kernel_rfl)) (by decide) (fun K hK => ?_)
              refine Kd.R_append_rows_step k48 (w0 := w) w.heap.size (by rfl) (.tmp 100) (.tmp 101) 37 48 (.agg #[(.int .i64 0), (.int .i64 0), (.int .i64 0), (.bool false), (.int .i64 0), (.bool false), (.int .i64 0), (.int .i64 0)]) 64 rfl Try.underlying37 info48 rfl (by decide) (by omega) v661 y660 t92 _ _ _ (fun k_ => some k_ ≠ (.slice (some ad658) t92.length co8 : Value).ownBlock ∧ some k_ ≠ (v668 : Value).ownBlock ∧ k_ ≠ gb94) (fun _ => False) rfl rfl ?aO ?aR (fun _ _ h => h) (fun _ h => h.elim) ?aF ?aB ?aS ?aL ?_
              (case aR => repeat (first | exact (Kd.R_reads' HO_3.out).2.2 | (with_reducible first | refine Kd.C_alloc ?_ _ | refine Kd.C_drewN ?_ _ | refine Kd.C_drew ?_)))
              (case aB => exact zb)
              (case aF => exact (fun k_ hk => ⟨Kd.fresh' (Kd.R_lt (by (with_reducible repeat (first | apply Kd.R_alloc | apply Kd.R_drewN | apply Kd.R_drew)); exact HO_3.out)) k_ hk, Kd.fresh' (Kd.R_lt (by (with_reducible repeat (first | apply Kd.R_alloc | apply Kd.R_drewN | apply Kd.R_drew)); exact HO669.out)) k_ hk, Kd.freshB (g := gb94) (o := .cells #[.int .i64 ((rd_T48 t92 (ji48)).f0), .int .i64 ((rd_T48 t92 (ji48)).f1), .int .i64 ((rd_T48 t92 (ji48)).f2), .bool ((rd_T48 t92 (ji48)).f3), .int .i64 ((rd_T48 t92 (ji48)).f4), .bool ((rd_T48 t92 (ji48)).f5), .int .i64 ((rd_T48 t92 (ji48)).f6), .int .i64 ((rd_T48 t92 (ji48)).f7)] 48 (0, 0)) zk k_ hk⟩))
              (case aO => exact (by (with_reducible repeat (first | apply Kd.R_alloc | apply Kd.R_drewN | apply Kd.R_drew)); exact Kd.R_mono HO662.out (fun _ hk => ⟨hk.1.1.2, ⟨hk.1.2, hk.2⟩⟩)))
              (case aS => exact (below_size zb))
              (case aL => have := LMc51.out; omega)
              intro v664 w67 ho hb hg hat
              have HS10_ := cell_grown hg (hHeld.2.2.2.2.2.2.2.2.2.2) (zA HO_93 HO662)
              rw [← Ny663.out] at ho
              have n0_ := Aside0.mk (Kd.R_after (ok := (fun k_ => some k_ ≠ (v668 : Value).ownBlock ∧ k_ ≠ gb94)) (by (with_reducible repeat (first | apply Kd.R_alloc | apply Kd.R_drewN | apply Kd.R_drew)); exact Kd.R_mono HO_3.out (fun _ hk => ⟨⟨hk.1.2, hk.1.1⟩, hk.2⟩)) hg hat)
              have n1_ := Aside0.mk (Kd.R_over' (by (with_reducible repeat (first | apply Kd.R_alloc | apply Kd.R_drewN | apply Kd.R_drew)); exact HO_93.out) (Kd.R_typed (by (with_reducible repeat (first | apply Kd.R_alloc | apply Kd.R_drewN | apply Kd.R_drew)); exact HO662.out)) (by decide) hg)
              have n2_ := Aside0.mk (blk_grown (g := gb95) (o := .cells #[.int .i64 t98, .slice (some ad657) t97.length co12] 35 (0, 0)) zk hg (Kd.R_ne HO662.out BK95.out (by decide)))
              have n3_ := Aside0.mk (blk_grown (g := gb94) (o := .cells #[.int .i64 ((rd_T48 t92 (ji48)).f0), .int .i64 ((rd_T48 t92 (ji48)).f1), .int .i64 ((rd_T48 t92 (ji48)).f2), .bool ((rd_T48 t92 (ji48)).f3), .int .i64 ((rd_T48 t92 (ji48)).f4), .bool ((rd_T48 t92 (ji48)).f5), .int .i64 ((rd_T48 t92 (ji48)).f6), .int .i64 ((rd_T48 t92 (ji48)).f7)] 48 (0, 0)) zk hg (Kd.R_away HO662.out (fun _ hk => hk.2)))
              have n4_ := Aside0.mk (Kd.R_after (ok := (fun k_ => some k_ ≠ (.slice (some ad658) t92.length co8 : Value).ownBlock ∧ k_ ≠ gb94)) (by (with_reducible repeat (first | apply Kd.R_alloc | apply Kd.R_drewN | apply Kd.R_drew)); exact Kd.R_mono HO669.out (fun _ hk => ⟨⟨hk.1.1.2, hk.1.2⟩, hk.2⟩)) hg hat)
              have n5_ := Aside0.mk (hb)
              have n6_ := Aside0.mk (ho)
              clear HO_3
              clear HO_93
              clear BK95
              clear BK94
              clear HO669
              clear HB
              clear HO662
              have HO_3 := n0_
              have HO_93 := n1_
              have BK95 := n2_
              have BK94 := n3_
              have HO669 := n4_
              have HB := n5_
              have HO665 := n6_
              clear n0_ n1_ n2_ n3_ n4_ n5_ n6_
              clear ho hb hg hat
              refine hK.out _ _ ⟨(blk_cell BK94.out 0).trans rfl, (blk_cell BK94.out 1).trans rfl, (blk_cell BK94.out 2).trans rfl, (blk_cell BK94.out 3).trans rfl, (blk_cell BK94.out 4).trans rfl, (blk_cell BK94.out 5).trans rfl, (blk_cell BK94.out 6).trans rfl, (blk_cell BK94.out 7).trans rfl, (blk_cell BK95.out 0).trans rfl, (blk_cell BK95.out 1).trans rfl, HS10_⟩ (fun hHeld => ?_)
              clear hK K
              refine norm_ (a' := ?_) ?_ ?_
              rotate_left
              ·show Act.put _ (some 102) _ = _
               simp only [Act.put, List.setIfInBounds_toArray, List.set_cons_zero, List.set_cons_succ, i64_w, i32_w]
               rfl
              exact norm_ (by simp only [putAll, Act.put, List.setIfInBounds_toArray, List.set_cons_zero, List.set_cons_succ]) (hCont (v661, v664, v668) _ ⟨hHeld, (by (with_reducible repeat (first | apply Kd.R_alloc | apply Kd.R_drewN | apply Kd.R_drew)); exact Kd.R_mono HO665.out (fun _ hk => ⟨hk.2.1, ⟨hk.1, hk.2.2⟩⟩)), (by (with_reducible repeat (first | apply Kd.R_alloc | apply Kd.R_drewN | apply Kd.R_drew)); exact Kd.R_mono HO669.out (fun _ hk => ⟨hk.2, ⟨hk.1.1, hk.1.2⟩⟩)), (by (with_reducible repeat (first | apply Kd.R_alloc | apply Kd.R_drewN | apply Kd.R_drew)); exact Kd.R_mono HO_3.out (fun _ hk => ⟨hk.2, ⟨hk.1.1, hk.1.2⟩⟩)), (by (with_reducible repeat (first | apply Kd.R_alloc | apply Kd.R_drewN | apply Kd.R_drew)); exact HO_93.out), zk, zk, zb⟩)
             rintro ⟨v661, v664, v668⟩ w68 ⟨hS_, h0_, h1_, h2_, h3_, h4_, h5_, h6_⟩
             have n0_ : Aside0 (Kd.R k48 48 w68 w.heap.size (fun k_ => some k_ ≠ (v668 : Value).ownBlock ∧ some k_ ≠ (.slice (some ad658) t92.length co8 : Value).ownBlock ∧ k_ ≠ gb94) v664 y663) := ⟨h0_⟩
             have n1_ : Aside0 (Kd.R k48 48 w68 w.heap.size (fun k_ => some k_ ≠ (v664 : Value).ownBlock ∧ some k_ ≠ (.slice (some ad658) t92.length co8 : Value).ownBlock ∧ k_ ≠ gb94) v668 y667) := ⟨h1_⟩
             have n2_ : Aside0 (Kd.R k48 48 w68 w.heap.size (fun k_ => some k_ ≠ (v664 : Value).ownBlock ∧ some k_ ≠ (v668 : Value).ownBlock ∧ k_ ≠ gb94) (.slice (some ad658) t92.length co8) t92) := ⟨h2_⟩
             have n3_ : Aside0 (Kd.R (Kd.int .i64) 2 w68 w.heap.size (fun _ => True) (.slice (some ad657) t97.length co12) t97) := ⟨h3_⟩
             have n4_ : Aside0 (w68.heap[gb95]? = some (.cells #[.int .i64 t98, .slice (some ad657) t97.length co12] 35 (0, 0))) := ⟨h4_⟩
             have n5_ : Aside0 (w68.heap[gb94]? = some (.cells #[.int .i64 ((rd_T48 t92 (ji48)).f0), .int .i64 ((rd_T48 t92 (ji48)).f1), .int .i64 ((rd_T48 t92 (ji48)).f2), .bool ((rd_T48 t92 (ji48)).f3), .int .i64 ((rd_T48 t92 (ji48)).f4), .bool ((rd_T48 t92 (ji48)).f5), .int .i64 ((rd_T48 t92 (ji48)).f6), .int .i64 ((rd_T48 t92 (ji48)).f7)] 48 (0, 0))) := ⟨h5_⟩
             have n6_ : Aside0 (Below w.heap.size w w68) := ⟨h6_⟩
             clear HO_3
             clear HO_93
             clear BK95
             clear BK94
             clear HB
             clear h0_ h1_ h2_ h3_ h4_ h5_ h6_
             have HO665 := n0_
             have HO669 := n1_
             have HO_3 := n2_
             have HO_93 := n3_
             have BK95 := n4_
             have BK94 := n5_
             have HB := n6_
             clear n0_ n1_ n2_ n3_ n4_ n5_ n6_
             have hHeld : w68.cell? ⟨gb94, 0, none⟩ = some (.int .i64 ((rd_T48 t92 (ji48)).f0)) ∧ w68.cell? ⟨gb94, 1, none⟩ = some (.int .i64 ((rd_T48 t92 (ji48)).f1)) ∧ w68.cell? ⟨gb94, 2, none⟩ = some (.int .i64 ((rd_T48 t92 (ji48)).f2)) ∧ w68.cell? ⟨gb94, 3, none⟩ = some (.bool ((rd_T48 t92 (ji48)).f3)) ∧ w68.cell? ⟨gb94, 4, none⟩ = some (.int .i64 ((rd_T48 t92 (ji48)).f4)) ∧ w68.cell? ⟨gb94, 5, none⟩ = some (.bool ((rd_T48 t92 (ji48)).f5)) ∧ w68.cell? ⟨gb94, 6, none⟩ = some (.int .i64 ((rd_T48 t92 (ji48)).f6)) ∧ w68.cell? ⟨gb94, 7, none⟩ = some (.int .i64 ((rd_T48 t92 (ji48)).f7)) ∧ w68.cell? ⟨gb95, 0, none⟩ = some (.int .i64 t98) ∧ w68.cell? ⟨gb95, 1, none⟩ = some (.slice (some ad657) t97.length co12) ∧ w68.cell? ad657 = some (.int .i64 (rd t97 0)) := hS_
             obtain ⟨Ao70, co70, eo70⟩ := Kd.R_slice HO669.out
             (first | subst eo70 | (injection eo70 with f1_ f2_ f3_; have f4_ := f1_.symm; have f5_ := f3_.symm; clear f1_ f2_ f3_; subst f4_; subst f5_))
             refine norm_ (a' := ?_) ?_ ?_
             rotate_left
             ·simp only [putAll, Act.put, List.setIfInBounds_toArray, List.set_cons_zero, List.set_cons_succ]
              rfl
             refine one_ (i := 20) (N := some 120) #[true, true, true, true, true, true, true, true, true, true, true, true, true, true, true, true, true, true, true, true, true, false] rfl rfl (one_of HT_.out (by kernel_rfl)) (by decide) (fun K hK => ?_)
             refine Kd.R_append_rows_step k48 (w0 := w) w.heap.size (by rfl) (.tmp 102) (.tmp 119) 37 48 (.agg #[(.int .i64 0), (.int .i64 0), (.int .i64 0), (.bool false), (.int .i64 0), (.bool false), (.int .i64 0), (.int .i64 0)]) 64 rfl Try.underlying37 info48 rfl (by decide) (by omega) v664 y663 y667 _ _ _ (fun k_ => some k_ ≠ (.slice (some ad658) t92.length co8 : Value).ownBlock ∧ some k_ ≠ (.slice Ao70 y667.length co70 : Value).ownBlock ∧ k_ ≠ gb94) (fun _ => False) rfl rfl ?aO ?aR (fun _ _ h => h) (fun _ h => h.elim) ?aF ?aB ?aS ?aL ?_
             (case aR => repeat (first | exact (Kd.R_reads' HO669.out).2.2 | (with_reducible first | refine Kd.C_alloc ?_ _ | refine Kd.C_drewN ?_ _ | refine Kd.C_drew ?_)))
             (case aB => exact zb)
             (case aF => exact (fun k_ hk => ⟨Kd.fresh' (Kd.R_lt (by (with_reducible repeat (first | apply Kd.R_alloc | apply Kd.R_drewN | apply Kd.R_drew)); exact HO_3.out)) k_ hk, Kd.fresh' (Kd.R_lt (by (with_reducible repeat (first | apply Kd.R_alloc | apply Kd.R_drewN | apply Kd.R_drew)); exact HO669.out)) k_ hk, Kd.freshB (g := gb94) (o := .cells #[.int .i64 ((rd_T48 t92 (ji48)).f0), .int .i64 ((rd_T48 t92 (ji48)).f1), .int .i64 ((rd_T48 t92 (ji48)).f2), .bool ((rd_T48 t92 (ji48)).f3), .int .i64 ((rd_T48 t92 (ji48)).f4), .bool ((rd_T48 t92 (ji48)).f5), .int .i64 ((rd_T48 t92 (ji48)).f6), .int .i64 ((rd_T48 t92 (ji48)).f7)] 48 (0, 0)) zk k_ hk⟩))
             (case aO => exact (by (with_reducible repeat (first | apply Kd.R_alloc | apply Kd.R_drewN | apply Kd.R_drew)); exact Kd.R_mono HO665.out (fun _ hk => ⟨hk.2.1, ⟨hk.1, hk.2.2⟩⟩)))
             (case aS => exact (below_size zb))
             (case aL => have := LMc52.out; omega)
             intro v671 w69 ho hb hg hat
             have HS10_ := cell_grown hg (hHeld.2.2.2.2.2.2.2.2.2.2) (zA HO_93 HO665)
             rw [← Ny670.out] at ho
             have n0_ := Aside0.mk (Kd.R_after (ok := (fun k_ => some k_ ≠ (.slice Ao70 y667.length co70 : Value).ownBlock ∧ k_ ≠ gb94)) (by (with_reducible repeat (first | apply Kd.R_alloc | apply Kd.R_drewN | apply Kd.R_drew)); exact Kd.R_mono HO_3.out (fun _ hk => ⟨⟨hk.2.1, hk.2.2⟩, hk.1⟩)) hg hat)
             have n1_ := Aside0.mk (Kd.R_over' (by (with_reducible repeat (first | apply Kd.R_alloc | apply Kd.R_drewN | apply Kd.R_drew)); exact HO_93.out) (Kd.R_typed (by (with_reducible repeat (first | apply Kd.R_alloc | apply Kd.R_drewN | apply Kd.R_drew)); exact HO665.out)) (by decide) hg)
             have n2_ := Aside0.mk (blk_grown (g := gb95) (o := .cells #[.int .i64 t98, .slice (some ad657) t97.length co12] 35 (0, 0)) zk hg (Kd.R_ne HO665.out BK95.out (by decide)))
             have n3_ := Aside0.mk (blk_grown (g := gb94) (o := .cells #[.int .i64 ((rd_T48 t92 (ji48)).f0), .int .i64 ((rd_T48 t92 (ji48)).f1), .int .i64 ((rd_T48 t92 (ji48)).f2), .bool ((rd_T48 t92 (ji48)).f3), .int .i64 ((rd_T48 t92 (ji48)).f4), .bool ((rd_T48 t92 (ji48)).f5), .int .i64 ((rd_T48 t92 (ji48)).f6), .int .i64 ((rd_T48 t92 (ji48)).f7)] 48 (0, 0)) zk hg (Kd.R_away HO665.out (fun _ hk => hk.2.2)))
             have n4_ := Aside0.mk (Kd.R_after (ok := (fun k_ => some k_ ≠ (.slice (some ad658) t92.length co8 : Value).ownBlock ∧ k_ ≠ gb94)) (by (with_reducible repeat (first | apply Kd.R_alloc | apply Kd.R_drewN | apply Kd.R_drew)); exact Kd.R_mono HO669.out (fun _ hk => ⟨⟨hk.2.1, hk.2.2⟩, hk.1⟩)) hg hat)
             have n5_ := Aside0.mk (hb)
             have n6_ := Aside0.mk (ho)
             clear HO_3
             clear HO_93
             clear BK95
             clear BK94
             clear HO669
             clear HB
             clear HO665
             have HO_3 := n0_
             have HO_93 := n1_
             have BK95 := n2_
             have BK94 := n3_
             have HO669 := n4_
             have HB := n5_
             have HO672 := n6_
             clear n0_ n1_ n2_ n3_ n4_ n5_ n6_
             clear ho hb hg hat
             refine hK.out _ _ ⟨(blk_cell BK94.out 0).trans rfl, (blk_cell BK94.out 1).trans rfl, (blk_cell BK94.out 2).trans rfl, (blk_cell BK94.out 3).trans rfl, (blk_cell BK94.out 4).trans rfl, (blk_cell BK94.out 5).trans rfl, (blk_cell BK94.out 6).trans rfl, (blk_cell BK94.out 7).trans rfl, (blk_cell BK95.out 0).trans rfl, (blk_cell BK95.out 1).trans rfl, HS10_⟩ (fun hHeld => ?_)
             clear hK K
             refine norm_ (a' := ?_) ?_ ?_
             rotate_left
             ·show Act.put _ (some 120) _ = _
              simp only [Act.put, List.setIfInBounds_toArray, List.set_cons_zero, List.set_cons_succ, i64_w, i32_w]
              rfl
             refine zp 21 9 ?_
             refine done_ (done_of HT_.out (by kernel_rfl)) ?_
             obtain ⟨Ao71, co71, eo71⟩ := Kd.R_slice HO672.out
             subst eo71
             try go_wp2_with (first | ((with_reducible refine gate_callee (f := 19) rfl ?_); refine goesL_ (some 123) rfl rfl Try.func19 (by kernel_rfl) rfl #[.slice Ao71 y670.length co71, .int .i64 t636] rfl zm ?_; (with_reducible refine (impl_ChainBack.calls kj36 _ _ y670 t636 t673 t674 _ ?side1 ?side2 A53.out).mono ?_); (case side1 => repeat (first | exact (Kd.R_reads' HO672.out).2.2 | (with_reducible first | refine Kd.C_alloc ?_ _ | refine Kd.C_drewN ?_ _ | refine Kd.C_drew ?_))); (case side2 => exact (Kd.R_reads' HO672.out).2.1); rintro e w72 ⟨v675, rfl, ho0, hb⟩; refine ⟨_, rfl, ?_⟩; have n0_ := Aside0.mk (Kd.R_below (by (with_reducible repeat (first | apply Kd.R_alloc | apply Kd.R_drewN | apply Kd.R_drew)); exact HO_3.out) hb); have n1_ := Aside0.mk (Kd.R_elder' (by (with_reducible repeat (first | apply Kd.R_alloc | apply Kd.R_drewN | apply Kd.R_drew)); exact HO_93.out) (Kd.R_base ho0) hb); have n2_ := Aside0.mk (Kd.R_below (by (with_reducible repeat (first | apply Kd.R_alloc | apply Kd.R_drewN | apply Kd.R_drew)); exact HO669.out) hb); have n3_ := Aside0.mk (Kd.R_below (by (with_reducible repeat (first | apply Kd.R_alloc | apply Kd.R_drewN | apply Kd.R_drew)); exact HO672.out) hb); have n4_ := Aside0.mk (Kd.R_lower (Kd.R_new' ho0 (Kd.R_lt (by (with_reducible repeat (first | apply Kd.R_alloc | apply Kd.R_drewN | apply Kd.R_drew)); exact HO_93.out))) (below_size zb)); have n5_ := Aside0.mk (blk_below (g := gb95) (o := .cells #[.int .i64 t98, .slice (some ad657) t97.length co12] 35 (0, 0)) zk hb); have n6_ := Aside0.mk (blk_below (g := gb94) (o := .cells #[.int .i64 ((rd_T48 t92 (ji48)).f0), .int .i64 ((rd_T48 t92 (ji48)).f1), .int .i64 ((rd_T48 t92 (ji48)).f2), .bool ((rd_T48 t92 (ji48)).f3), .int .i64 ((rd_T48 t92 (ji48)).f4), .bool ((rd_T48 t92 (ji48)).f5), .int .i64 ((rd_T48 t92 (ji48)).f6), .int .i64 ((rd_T48 t92 (ji48)).f7)] 48 (0, 0)) zk hb); have n7_ := Aside0.mk (below_step zb hb); clear HO_3; clear HO_93; clear HO669; clear HO672; clear BK95; clear BK94; clear HB; have HO_3 := n0_; have HO_93 := n1_; have HO669 := n2_; have HO672 := n3_; have HO676 := n4_; have BK95 := n5_; have BK94 := n6_; have HB := n7_; clear n0_ n1_ n2_ n3_ n4_ n5_ n6_ n7_; (try clear hb); (try clear hb2); (try clear hk); (try clear hi); (try clear ho0)) | ((with_reducible refine gate_dst (N := 10) rfl ?_); (try (refine gate_guard (by rfl) ?_; dsimp only)); refine box_event ?hg (N := 10) ?hd (cs := #[.int .i64 0, .slice none 0 0]) (t := 35) ?hr ?_; (case hd => rfl); (case hg => rfl); (case hr => first | (go_simp; done) | (go_simp; rfl)); intro gb99 hg w73 hbox hb; have n0_ := Aside0.mk (Kd.R_below (by (with_reducible repeat (first | apply Kd.R_alloc | apply Kd.R_drewN | apply Kd.R_drew)); exact HO_3.out) hb); have n1_ := Aside0.mk (Kd.R_below (by (with_reducible repeat (first | apply Kd.R_alloc | apply Kd.R_drewN | apply Kd.R_drew)); exact HO_93.out) hb); have n2_ := Aside0.mk (Kd.R_below (by (with_reducible repeat (first | apply Kd.R_alloc | apply Kd.R_drewN | apply Kd.R_drew)); exact HO669.out) hb); have n3_ := Aside0.mk (Kd.R_below (by (with_reducible repeat (first | apply Kd.R_alloc | apply Kd.R_drewN | apply Kd.R_drew)); exact HO672.out) hb); have n4_ := Aside0.mk (Kd.R_below (by (with_reducible repeat (first | apply Kd.R_alloc | apply Kd.R_drewN | apply Kd.R_drew)); exact HO676.out) hb); have n5_ := Aside0.mk (blk_below (g := gb95) (o := .cells #[.int .i64 t98, .slice (some ad657) t97.length co12] 35 (0, 0)) zk hb); have n6_ := Aside0.mk (blk_below (g := gb94) (o := .cells #[.int .i64 ((rd_T48 t92 (ji48)).f0), .int .i64 ((rd_T48 t92 (ji48)).f1), .int .i64 ((rd_T48 t92 (ji48)).f2), .bool ((rd_T48 t92 (ji48)).f3), .int .i64 ((rd_T48 t92 (ji48)).f4), .bool ((rd_T48 t92 (ji48)).f5), .int .i64 ((rd_T48 t92 (ji48)).f6), .int .i64 ((rd_T48 t92 (ji48)).f7)] 48 (0, 0)) zk hb); have n7_ := Aside0.mk (below_step zb hb); have n8_ := Aside0.mk (hbox); have n9_ := Aside0.mk ((by rw [hg]; exact (below_size zb) : w.heap.size ≤ gb99)); have n10_ := n9_; have n11_ := Aside0.mk ((by rw [hg]; exact Nat.ne_of_lt (blk_lt (g := gb95) (o := .cells #[.int .i64 t98, .slice (some ad657) t97.length co12] 35 (0, 0)) zk) : gb95 ≠ gb99)); have n12_ := Aside0.mk ((by rw [hg]; exact Nat.ne_of_gt (blk_lt (g := gb95) (o := .cells #[.int .i64 t98, .slice (some ad657) t97.length co12] 35 (0, 0)) zk) : gb99 ≠ gb95)); have n13_ := Aside0.mk ((by rw [hg]; exact Nat.ne_of_lt (blk_lt (g := gb94) (o := .cells #[.int .i64 ((rd_T48 t92 (ji48)).f0), .int .i64 ((rd_T48 t92 (ji48)).f1), .int .i64 ((rd_T48 t92 (ji48)).f2), .bool ((rd_T48 t92 (ji48)).f3), .int .i64 ((rd_T48 t92 (ji48)).f4), .bool ((rd_T48 t92 (ji48)).f5), .int .i64 ((rd_T48 t92 (ji48)).f6), .int .i64 ((rd_T48 t92 (ji48)).f7)] 48 (0, 0)) zk) : gb94 ≠ gb99)); have n14_ := Aside0.mk ((by rw [hg]; exact Nat.ne_of_gt (blk_lt (g := gb94) (o := .cells #[.int .i64 ((rd_T48 t92 (ji48)).f0), .int .i64 ((rd_T48 t92 (ji48)).f1), .int .i64 ((rd_T48 t92 (ji48)).f2), .bool ((rd_T48 t92 (ji48)).f3), .int .i64 ((rd_T48 t92 (ji48)).f4), .bool ((rd_T48 t92 (ji48)).f5), .int .i64 ((rd_T48 t92 (ji48)).f6), .int .i64 ((rd_T48 t92 (ji48)).f7)] 48 (0, 0)) zk) : gb99 ≠ gb94)); clear HO_3; clear HO_93; clear HO669; clear HO672; clear HO676; clear BK95; clear BK94; clear HB; have HO_3 := n0_; have HO_93 := n1_; have HO669 := n2_; have HO672 := n3_; have HO676 := n4_; have BK95 := n5_; have BK94 := n6_; have HB := n7_; have BK99 := n8_; have GW99 := n9_; have GE99 := n10_; have NB643_677 := n11_; have NB677_643 := n12_; have NB659_677 := n13_; have NB677_659 := n14_; clear n0_ n1_ n2_ n3_ n4_ n5_ n6_ n7_ n8_ n9_ n10_ n11_ n12_ n13_ n14_; clear hb hbox hg; have hnb74 := NB677_643.out; have hnc74 := NB643_677.out; have hnb75 := NB677_659.out; have hnc75 := NB659_677.out; obtain ⟨hcz76_0, hcz76_1, hfz76_0, hfz76_1⟩ := Lv.blks2 BK99.out; obtain ⟨Ao77, co77, eo77⟩ := Kd.R_slice HO676.out; subst eo77))
             have n0_ : Aside0 (Kd.R k48 48 ((w73.setCell ⟨gb99, 0, none⟩ (.int .i64 t673)).setCell ⟨gb99, 1, none⟩ (.slice Ao77 t674.length co77)) w.heap.size (fun k_ => some k_ ≠ (.slice Ao70 y667.length co70 : Value).ownBlock ∧ some k_ ≠ (.slice Ao71 y670.length co71 : Value).ownBlock ∧ k_ ≠ gb94) (.slice (some ad658) t92.length co8) t92) := ⟨by (with_reducible repeat (first | apply Kd.R_alloc | apply Kd.R_drewN | apply Kd.R_drew)); exact Kd.R_mono (Kd.R_far (p := ⟨gb99, 1, none⟩) (Kd.R_far (p := ⟨gb99, 0, none⟩) (Kd.R_types HO_3.out BK99.out (by decide)) (fun _ hk => hk.2) (.int .i64 t673)) (fun _ hk => hk.2) (.slice Ao77 t674.length co77)) (fun _ hk => ⟨hk.1.1.1, ⟨hk.1.2, hk.1.1.2⟩⟩)⟩
             have n1_ : Aside0 (Kd.R (Kd.int .i64) 2 ((w73.setCell ⟨gb99, 0, none⟩ (.int .i64 t673)).setCell ⟨gb99, 1, none⟩ (.slice Ao77 t674.length co77)) w.heap.size (fun k_ => some k_ ≠ (.slice Ao77 t674.length co77 : Value).ownBlock) (.slice (some ad657) t97.length co12) t97) := ⟨by (with_reducible repeat (first | apply Kd.R_alloc | apply Kd.R_drewN | apply Kd.R_drew)); exact Kd.R_mono (Kd.R_far (p := ⟨gb99, 1, none⟩) (Kd.R_far (p := ⟨gb99, 0, none⟩) (Kd.R_types HO_93.out BK99.out (by decide)) (fun _ hk => hk.2) (.int .i64 t673)) (fun _ hk => hk.2) (.slice Ao77 t674.length co77)) (fun _ hk => hk.1.2)⟩
             have n2_ : Aside0 (Kd.R k48 48 ((w73.setCell ⟨gb99, 0, none⟩ (.int .i64 t673)).setCell ⟨gb99, 1, none⟩ (.slice Ao77 t674.length co77)) w.heap.size (fun k_ => some k_ ≠ (.slice (some ad658) t92.length co8 : Value).ownBlock ∧ some k_ ≠ (.slice Ao71 y670.length co71 : Value).ownBlock ∧ k_ ≠ gb94) (.slice Ao70 y667.length co70) y667) := ⟨by (with_reducible repeat (first | apply Kd.R_alloc | apply Kd.R_drewN | apply Kd.R_drew)); exact Kd.R_mono (Kd.R_far (p := ⟨gb99, 1, none⟩) (Kd.R_far (p := ⟨gb99, 0, none⟩) (Kd.R_types HO669.out BK99.out (by decide)) (fun _ hk => hk.2) (.int .i64 t673)) (fun _ hk => hk.2) (.slice Ao77 t674.length co77)) (fun _ hk => ⟨hk.1.1.1, ⟨hk.1.2, hk.1.1.2⟩⟩)⟩
             have n3_ : Aside0 (Kd.R k48 48 ((w73.setCell ⟨gb99, 0, none⟩ (.int .i64 t673)).setCell ⟨gb99, 1, none⟩ (.slice Ao77 t674.length co77)) w.heap.size (fun k_ => some k_ ≠ (.slice (some ad658) t92.length co8 : Value).ownBlock ∧ some k_ ≠ (.slice Ao70 y667.length co70 : Value).ownBlock ∧ k_ ≠ gb94) (.slice Ao71 y670.length co71) y670) := ⟨by (with_reducible repeat (first | apply Kd.R_alloc | apply Kd.R_drewN | apply Kd.R_drew)); exact Kd.R_mono (Kd.R_far (p := ⟨gb99, 1, none⟩) (Kd.R_far (p := ⟨gb99, 0, none⟩) (Kd.R_types HO672.out BK99.out (by decide)) (fun _ hk => hk.2) (.int .i64 t673)) (fun _ hk => hk.2) (.slice Ao77 t674.length co77)) (fun _ hk => ⟨hk.1.1, ⟨hk.1.2.1, hk.1.2.2⟩⟩)⟩
             have n4_ : Aside0 (Kd.R (Kd.int .i64) 2 ((w73.setCell ⟨gb99, 0, none⟩ (.int .i64 t673)).setCell ⟨gb99, 1, none⟩ (.slice Ao77 t674.length co77)) w.heap.size (fun k_ => some k_ ≠ (.slice (some ad657) t97.length co12 : Value).ownBlock) (.slice Ao77 t674.length co77) t674) := ⟨by (with_reducible repeat (first | apply Kd.R_alloc | apply Kd.R_drewN | apply Kd.R_drew)); exact Kd.R_mono (Kd.R_far (p := ⟨gb99, 1, none⟩) (Kd.R_far (p := ⟨gb99, 0, none⟩) (Kd.R_types HO676.out BK99.out (by decide)) (fun _ hk => hk.2) (.int .i64 t673)) (fun _ hk => hk.2) (.slice Ao77 t674.length co77)) (fun _ hk => hk.1.2)⟩
             have n5_ : Aside0 (((w73.setCell ⟨gb99, 0, none⟩ (.int .i64 t673)).setCell ⟨gb99, 1, none⟩ (.slice Ao77 t674.length co77)).heap[gb95]? = some (.cells #[.int .i64 t98, .slice (some ad657) t97.length co12] 35 (0, 0))) := ⟨by (with_reducible repeat (first | refine blk_drewN ?_ _ | refine blk_drew ?_ | refine blk_alloc ?_ _)); refine blk_far ?_ NB643_677.out _; (with_reducible repeat (first | refine blk_drewN ?_ _ | refine blk_drew ?_ | refine blk_alloc ?_ _)); refine blk_far ?_ NB643_677.out _; (with_reducible repeat (first | refine blk_drewN ?_ _ | refine blk_drew ?_ | refine blk_alloc ?_ _)); exact BK95.out⟩
             have n6_ : Aside0 (((w73.setCell ⟨gb99, 0, none⟩ (.int .i64 t673)).setCell ⟨gb99, 1, none⟩ (.slice Ao77 t674.length co77)).heap[gb94]? = some (.cells #[.int .i64 ((rd_T48 t92 (ji48)).f0), .int .i64 ((rd_T48 t92 (ji48)).f1), .int .i64 ((rd_T48 t92 (ji48)).f2), .bool ((rd_T48 t92 (ji48)).f3), .int .i64 ((rd_T48 t92 (ji48)).f4), .bool ((rd_T48 t92 (ji48)).f5), .int .i64 ((rd_T48 t92 (ji48)).f6), .int .i64 ((rd_T48 t92 (ji48)).f7)] 48 (0, 0))) := ⟨by (with_reducible repeat (first | refine blk_drewN ?_ _ | refine blk_drew ?_ | refine blk_alloc ?_ _)); refine blk_far ?_ NB659_677.out _; (with_reducible repeat (first | refine blk_drewN ?_ _ | refine blk_drew ?_ | refine blk_alloc ?_ _)); refine blk_far ?_ NB659_677.out _; (with_reducible repeat (first | refine blk_drewN ?_ _ | refine blk_drew ?_ | refine blk_alloc ?_ _)); exact BK94.out⟩
             have n7_ : Aside0 (((w73.setCell ⟨gb99, 0, none⟩ (.int .i64 t673)).setCell ⟨gb99, 1, none⟩ (.slice Ao77 t674.length co77)).heap[gb99]? = some (.cells #[.int .i64 t673, .slice Ao77 t674.length co77] 35 (0, 0))) := ⟨by (with_reducible repeat (first | refine blk_drewN ?_ _ | refine blk_drew ?_ | refine blk_alloc ?_ _)); refine blk_put (cs := #[.int .i64 t673, .slice none 0 0]) ?_ 1 _ rfl; (with_reducible repeat (first | refine blk_drewN ?_ _ | refine blk_drew ?_ | refine blk_alloc ?_ _)); refine blk_put (cs := #[.int .i64 0, .slice none 0 0]) ?_ 0 _ rfl; (with_reducible repeat (first | refine blk_drewN ?_ _ | refine blk_drew ?_ | refine blk_alloc ?_ _)); exact BK99.out⟩
             have n8_ : Aside0 (Below w.heap.size w ((w73.setCell ⟨gb99, 0, none⟩ (.int .i64 t673)).setCell ⟨gb99, 1, none⟩ (.slice Ao77 t674.length co77))) := ⟨zb⟩
             (try clear HO_3)
             (try clear HO_93)
             (try clear HO669)
             (try clear HO672)
             (try clear HO676)
             (try clear BK95)
             (try clear BK94)
             (try clear BK99)
             (try clear HB)
             generalize ((w73.setCell ⟨gb99, 0, none⟩ (.int .i64 t673)).setCell ⟨gb99, 1, none⟩ (.slice Ao77 t674.length co77)) = w78 at n0_ n1_ n2_ n3_ n4_ n5_ n6_ n7_ n8_ ⊢
             have HO_3 := n0_
             have HO_93 := n1_
             have HO669 := n2_
             have HO672 := n3_
             have HO676 := n4_
             have BK95 := n5_
             have BK94 := n6_
             have BK99 := n7_
             have HB := n8_
             clear n0_ n1_ n2_ n3_ n4_ n5_ n6_ n7_ n8_
             have n0_ := Aside0.mk (Kd.R_drew HO_3.out)
             have n1_ := Aside0.mk (Kd.R_drew HO_93.out)
             have n2_ := Aside0.mk (Kd.R_drew HO669.out)
             have n3_ := Aside0.mk (Kd.R_drew HO672.out)
             have n4_ := Aside0.mk (Kd.R_drew HO676.out)
             have n5_ := Aside0.mk (blk_drew BK95.out)
             have n6_ := Aside0.mk (blk_drew BK94.out)
             have n7_ := Aside0.mk (blk_drew BK99.out)
             have n8_ := Aside0.mk (below_drew1 HB.out)
             clear HO_3
             clear HO_93
             clear HO669
             clear HO672
             clear HO676
             clear BK95
             clear BK94
             clear BK99
             clear HB
             have HO_3 := n0_
             have HO_93 := n1_
             have HO669 := n2_
             have HO672 := n3_
             have HO676 := n4_
             have BK95 := n5_
             have BK94 := n6_
             have BK99 := n7_
             have HB := n8_
             clear n0_ n1_ n2_ n3_ n4_ n5_ n6_ n7_ n8_
             have q80 : (1 : Int) ≤ ((t97.length : Int) : Int) := of_decide_eq_true za
             obtain ⟨i080, hi080, _, hsz80, _⟩ := info_parts info2
             have hroom80 : t97.length ≤ co12 := (Kd.R_reads' HO_93.out).2.1
             have hC80 : Kd.C (Kd.int .i64) _ (some ad657) t97.length t97 := (Kd.R_reads' HO_93.out).2.2
             have hcut80 := cut_from (P := Try.prog) 33 2 .i64 Try.underlying33 hi080 1 hsz80 (some ad657) t97.length co12 1 (by omega) q80
             have hr80 := Kd.C_drop (m := (1 : Int).toNat) (c := co12) hC80 (by omega) hroom80
             obtain ⟨A80, hA80⟩ : ∃ A1, A1 = (if co12 = (1 : Int).toNat then (some ad657) else ((some ad657) : Option Addr).map (·.add ((1 : Int).toNat * 1))) := ⟨_, rfl⟩
             obtain ⟨c80, hc80⟩ : ∃ c1, c1 = co12 - (1 : Int).toNat := ⟨_, rfl⟩
             have hy80 : y678.length = t97.length - (1 : Int).toNat := (by rw [Ny678.out, List.length_drop] <;> omega)
             rw [show (t97).drop (1 : Int).toNat = y678 from Ny678.out.symm] at hr80
             replace hr80 : Kd.C (Kd.int .i64) _ A80 y678.length y678 := (by rw [hA80]; exact hr80)
             rw [← hy80, ← hA80, ← hc80] at hcut80
             have HR681 := Aside0.mk hr80
             have HC681 := Aside0.mk (show y678.length ≤ c80 from by rw [hy80, hc80]; exact Nat.sub_le_sub_right hroom80 _)
             clear hr80 hC80 hroom80 hi080 hsz80 hc80
             have KY80 := Aside0.mk hy80
             have KA80 := Aside0.mk hA80
             clear hy80 hA80
             have KL80 := Aside0.mk (show 1 ≤ t97.length from by omega)
             replace q80 := eq_true q80
             refine start_ (n := 12) (S := fun w' => w'.cell? ⟨gb99, 0, none⟩ = some (.int .i64 t673) ∧ w'.cell? ⟨gb99, 1, none⟩ = some (.slice Ao77 t674.length co77) ∧ w'.cell? ⟨gb95, 0, none⟩ = some (.int .i64 t98) ∧ w'.cell? ⟨gb95, 1, none⟩ = some (.slice (some ad657) t97.length co12)) (ds := []) #[false, false, false, false, false, false, false, false, false, false, false, false] (by kernel_rfl) rfl rfl ⟨(blk_cell BK99.out 0).trans rfl, (blk_cell BK99.out 1).trans rfl, (blk_cell BK95.out 0).trans rfl, (blk_cell BK95.out 1).trans rfl⟩ (fun hHeld => ?_); refine with_tabW laws_FnBacks.tab18 laws_FnBacks.bits18 (fun HT_ HW_ => ?_)
             generalize w78.drew = w79 at HO_3 HO_93 HO669 HO672 HO676 BK95 BK94 BK99 HB HR681 hHeld ⊢
             refine zp 0 124 ?_; refine zt 1 125 ?_; refine zp 2 126 ?_; refine zp 3 127 ?_; refine zp 4 128 ?_; refine zp 6 130 ?_; refine zt 5 129 ?_; refine zt 7 131 ?_; refine zp 8 132 ?_
             refine one_ (i := 9) (N := some 133) #[true, true, true, true, true, true, true, true, true, true, false, false] rfl rfl (one_of HT_.out (by kernel_rfl)) (by decide) (fun K hK => ?_)
             refine goes_ Try.func27 (by kernel_rfl) rfl #[.slice Ao77 t674.length co77, .slice A80 y678.length c80] (by rfl) rfl rfl zm ?_
             with_reducible refine (laws_lwNums.calls kj36 _ _ t674 _ _ y678 t682 _ ?side1 ?side2 ?side3 ?side4 A56.out).mono ?_
             (case side1 => repeat (first | exact (Kd.R_reads' HO676.out).2.2 | (with_reducible first | refine Kd.C_alloc ?_ _ | refine Kd.C_drewN ?_ _ | refine Kd.C_drew ?_)))
             (case side2 => exact (Kd.R_reads' HO676.out).2.1)
             (case side3 => repeat (first | exact (by repeat (first | (with_reducible exact HR681.out) | (with_reducible first | refine Kd.C_alloc ?_ _ | refine Kd.C_drewN ?_ _ | refine Kd.C_drew ?_) | exact HR681.out)) | (with_reducible first | refine Kd.C_alloc ?_ _ | refine Kd.C_drewN ?_ _ | refine Kd.C_drew ?_)))
             (case side4 => exact HC681.out)
             rintro e w' ⟨rfl, ⟨nd, rfl⟩⟩
             refine ⟨_, rfl, ?_⟩
             refine hK.out _ _ ⟨(blk_cell BK99.out 0).trans rfl, (blk_cell BK99.out 1).trans rfl, (blk_cell BK95.out 0).trans rfl, (blk_cell BK95.out 1).trans rfl⟩ (fun hHeld => ?_)
             clear hK K
             refine norm_ (a' := ?_) ?_ ?_
             rotate_left
             ·show Act.put _ (some 133) _ = _
              simp only [Act.put, List.setIfInBounds_toArray, List.set_cons_zero, List.set_cons_succ, i64_w, i32_w]
              rfl
             refine zp 10 134 ?_; refine zp 11 2 ?_
             refine done_ (done_of HT_.out (by kernel_rfl)) ?_
             try go_wp2
             go_ret
             exact ⟨by first | rfl | (simp [errW_none, errW_some] <;> rfl) | (simp only [← hji48]; first | rfl | (simp [errW_none, errW_some] <;> rfl)) | (simp [*, errW_none, errW_some] <;> rfl) | (exact congrArg (fun b_ => Ending.returned (Value.bool b_)) HTR_.out) | (have HT2_ := HTR_.out; simp_all), zb⟩
            rw [if_neg c55] at H
            exact absurd H (by simp)
           rw [if_neg c54] at H
           have c54b0 : (t673 == 0) = false := beq_eq_false_iff_ne.mpr c54
           have c54b1 : (t673 != 0) = true := bne_iff_ne.mpr c54
           exact absurd H (by simp)
          rw [if_neg c52] at H
          exact absurd H (by simp)
         rw [if_neg c51] at H
         exact absurd H (by simp)
        rw [if_neg c50] at H
        exact absurd H (by simp)
       rw [if_neg c49] at H
       exact absurd H (by simp)
      rw [if_neg c47] at H
      exact absurd H (by simp)
 rw [if_neg c6] at H
 have c6b0 : (t98 == 0) = false := beq_eq_false_iff_ne.mpr c6
 have c6b1 : (t98 != 0) = true := bne_iff_ne.mpr c6
 replace H := Option.bind_eq_some_iff.mp H
 obtain ⟨⟨t644, t645⟩, A810, H⟩ := H
 replace H : (some (t644 == t98)) = some true := H
 have A81 := Aside0.mk A810
 clear A810
 have HTR_ := Aside0.mk (Option.some.inj H)
 go_enter Try.func5, Try.ntmps5
 try go_wp2_with (first | ((with_reducible refine gate_callee (f := 25) rfl ?_); refine goesL_ (some 12) rfl rfl Try.func25 (by kernel_rfl) rfl #[.slice A0 l0.length c0] rfl zm ?_; (with_reducible refine (laws_lwBig.calls _ _ l0 false _ ?side1 ?side2 A2.out).mono ?_); (case side1 => repeat (first | exact HR0.out | (with_reducible first | refine Kd.C_alloc ?_ _ | refine Kd.C_drewN ?_ _ | refine Kd.C_drew ?_))); (case side2 => exact HC0.out); rintro e w' ⟨rfl, ⟨nd, rfl⟩⟩; refine ⟨_, rfl, ?_⟩) | ((with_reducible refine gate_callee (f := 26) rfl ?_); refine goesL_ (some 15) rfl rfl Try.func26 (by kernel_rfl) rfl #[.slice A0 l0.length c0] rfl zm ?_; (with_reducible refine (spec_DrawChainBack.calls k _ _ l0 t92 t636 _ ?side1 ?side2 A4.out).mono ?_); (case side1 => repeat (first | exact HR0.out | (with_reducible first | refine Kd.C_alloc ?_ _ | refine Kd.C_drewN ?_ _ | refine Kd.C_drew ?_))); (case side2 => exact HC0.out); rintro e w82 ⟨v637, rfl, ho0, hb⟩; refine ⟨_, rfl, ?_⟩; have n0_ := Aside0.mk (Kd.R_lower ho0 (below_size zb)); have n1_ := Aside0.mk (below_step zb hb); clear HB; have HO638 := n0_; have HB := n1_; clear n0_ n1_; (try clear hb); (try clear hb2); (try clear hk); (try clear hi); (try clear ho0); obtain ⟨Ao83, co83, eo83⟩ := Kd.R_slice HO638.out; subst eo83) | ((with_reducible refine gate_callee (f := 19) rfl ?_); refine goesL_ (some 20) rfl rfl Try.func19 (by kernel_rfl) rfl #[.slice Ao83 t92.length co83, .int .i64 t636] rfl zm ?_; (with_reducible refine (impl_ChainBack.calls k _ _ t92 t636 t98 t97 _ ?side1 ?side2 A5.out).mono ?_); (case side1 => repeat (first | exact (Kd.R_reads' HO638.out).2.2 | (with_reducible first | refine Kd.C_alloc ?_ _ | refine Kd.C_drewN ?_ _ | refine Kd.C_drew ?_))); (case side2 => exact (Kd.R_reads' HO638.out).2.1); rintro e w84 ⟨v641, rfl, ho0, hb⟩; refine ⟨_, rfl, ?_⟩; have n0_ := Aside0.mk (Kd.R_below (by (with_reducible repeat (first | apply Kd.R_alloc | apply Kd.R_drewN | apply Kd.R_drew)); exact HO638.out) hb); have n1_ := Aside0.mk (Kd.R_lower ho0 (below_size zb)); have n2_ := Aside0.mk (below_step zb hb); clear HO638; clear HB; have HO638 := n0_; have HO642 := n1_; have HB := n2_; clear n0_ n1_ n2_; (try clear hb); (try clear hb2); (try clear hk); (try clear hi); (try clear ho0)) | ((with_reducible refine gate_dst (N := 5) rfl ?_); (try (refine gate_guard (by rfl) ?_; dsimp only)); refine box_event ?hg (N := 5) ?hd (cs := #[.int .i64 0, .slice none 0 0]) (t := 35) ?hr ?_; (case hd => rfl); (case hg => rfl); (case hr => first | (go_simp; done) | (go_simp; rfl)); intro gb95 hg w85 hbox hb; have n0_ := Aside0.mk (Kd.R_below (by (with_reducible repeat (first | apply Kd.R_alloc | apply Kd.R_drewN | apply Kd.R_drew)); exact HO638.out) hb); have n1_ := Aside0.mk (Kd.R_below (by (with_reducible repeat (first | apply Kd.R_alloc | apply Kd.R_drewN | apply Kd.R_drew)); exact HO642.out) hb); have n2_ := Aside0.mk (below_step zb hb); have n3_ := Aside0.mk (hbox); have n4_ := Aside0.mk ((by rw [hg]; exact (below_size zb) : w.heap.size ≤ gb95)); have n5_ := n4_; clear HO638; clear HO642; clear HB; have HO638 := n0_; have HO642 := n1_; have HB := n2_; have BK95 := n3_; have GW95 := n4_; have GE95 := n5_; clear n0_ n1_ n2_ n3_ n4_ n5_; clear hb hbox hg; obtain ⟨hcz86_0, hcz86_1, hfz86_0, hfz86_1⟩ := Lv.blks2 BK95.out; obtain ⟨Ao87, co87, eo87⟩ := Kd.R_slice HO642.out; subst eo87))
 have n0_ : Aside0 (Kd.R k48 48 ((w85.setCell ⟨gb95, 0, none⟩ (.int .i64 t98)).setCell ⟨gb95, 1, none⟩ (.slice Ao87 t97.length co87)) w.heap.size (fun _ => True) (.slice Ao83 t92.length co83) t92) := ⟨by (with_reducible repeat (first | apply Kd.R_alloc | apply Kd.R_drewN | apply Kd.R_drew)); exact Kd.R_mono (Kd.R_far (p := ⟨gb95, 1, none⟩) (Kd.R_far (p := ⟨gb95, 0, none⟩) (Kd.R_types HO638.out BK95.out (by decide)) (fun _ hk => hk.2) (.int .i64 t98)) (fun _ hk => hk.2) (.slice Ao87 t97.length co87)) (fun _ hk => trivial)⟩
 have n1_ : Aside0 (Kd.R (Kd.int .i64) 2 ((w85.setCell ⟨gb95, 0, none⟩ (.int .i64 t98)).setCell ⟨gb95, 1, none⟩ (.slice Ao87 t97.length co87)) w.heap.size (fun _ => True) (.slice Ao87 t97.length co87) t97) := ⟨by (with_reducible repeat (first | apply Kd.R_alloc | apply Kd.R_drewN | apply Kd.R_drew)); exact Kd.R_mono (Kd.R_far (p := ⟨gb95, 1, none⟩) (Kd.R_far (p := ⟨gb95, 0, none⟩) (Kd.R_types HO642.out BK95.out (by decide)) (fun _ hk => hk.2) (.int .i64 t98)) (fun _ hk => hk.2) (.slice Ao87 t97.length co87)) (fun _ hk => trivial)⟩
 have n2_ : Aside0 (((w85.setCell ⟨gb95, 0, none⟩ (.int .i64 t98)).setCell ⟨gb95, 1, none⟩ (.slice Ao87 t97.length co87)).heap[gb95]? = some (.cells #[.int .i64 t98, .slice Ao87 t97.length co87] 35 (0, 0))) := ⟨by (with_reducible repeat (first | refine blk_drewN ?_ _ | refine blk_drew ?_ | refine blk_alloc ?_ _)); refine blk_put (cs := #[.int .i64 t98, .slice none 0 0]) ?_ 1 _ rfl; (with_reducible repeat (first | refine blk_drewN ?_ _ | refine blk_drew ?_ | refine blk_alloc ?_ _)); refine blk_put (cs := #[.int .i64 0, .slice none 0 0]) ?_ 0 _ rfl; (with_reducible repeat (first | refine blk_drewN ?_ _ | refine blk_drew ?_ | refine blk_alloc ?_ _)); exact BK95.out⟩
 have n3_ : Aside0 (Below w.heap.size w ((w85.setCell ⟨gb95, 0, none⟩ (.int .i64 t98)).setCell ⟨gb95, 1, none⟩ (.slice Ao87 t97.length co87))) := ⟨zb⟩
 (try clear HO638)
 (try clear HO642)
 (try clear BK95)
 (try clear HB)
 generalize ((w85.setCell ⟨gb95, 0, none⟩ (.int .i64 t98)).setCell ⟨gb95, 1, none⟩ (.slice Ao87 t97.length co87)) = w88 at n0_ n1_ n2_ n3_ ⊢
 have HO638 := n0_
 have HO642 := n1_
 have BK95 := n2_
 have HB := n3_
 clear n0_ n1_ n2_ n3_
 have n0_ := Aside0.mk (Kd.R_drew HO638.out)
 have n1_ := Aside0.mk (Kd.R_drew HO642.out)
 have n2_ := Aside0.mk (blk_drew BK95.out)
 have n3_ := Aside0.mk (below_drew1 HB.out)
 clear HO638
 clear HO642
 clear BK95
 clear HB
 have HO638 := n0_
 have HO642 := n1_
 have BK95 := n2_
 have HB := n3_
 clear n0_ n1_ n2_ n3_
 refine start_ (n := 8) (S := fun w' => w'.cell? ⟨gb95, 0, none⟩ = some (.int .i64 t98) ∧ w'.cell? ⟨gb95, 1, none⟩ = some (.slice Ao87 t97.length co87)) (ds := []) #[false, false, false, false, false, false, false, false] (by kernel_rfl) rfl rfl ⟨(blk_cell BK95.out 0).trans rfl, (blk_cell BK95.out 1).trans rfl⟩ (fun hHeld => ?_); refine with_tabW laws_FnBacks.tab6 laws_FnBacks.bits6 (fun HT_ HW_ => ?_)
 generalize w88.drew = w89 at HO638 HO642 BK95 HB hHeld ⊢
 refine zp 0 24 ?_; refine zp 1 25 ?_; refine zp 4 28 ?_; refine zt 5 29 ?_
 refine one_ (i := 2) (N := some 26) #[true, true, true, false, true, true, false, false] rfl rfl (one_of HT_.out (by kernel_rfl)) (by decide) (fun K hK => ?_)
 refine goes_ Try.func17 (by kernel_rfl) rfl #[.slice Ao83 t92.length co83, .int .i64 t636] (by rfl) rfl rfl zm ?_
 with_reducible refine (spec_ChainBack.calls k _ _ t92 t636 t644 t645 _ ?side1 ?side2 A81.out).mono ?_
 (case side1 => repeat (first | exact (Kd.R_reads' HO638.out).2.2 | (with_reducible first | refine Kd.C_alloc ?_ _ | refine Kd.C_drewN ?_ _ | refine Kd.C_drew ?_)))
 (case side2 => exact (Kd.R_reads' HO638.out).2.1)
 rintro e w90 ⟨v646, rfl, ho0, hb⟩
 refine ⟨_, rfl, ?_⟩
 have n0_ := Aside0.mk (Kd.R_below (by (with_reducible repeat (first | apply Kd.R_alloc | apply Kd.R_drewN | apply Kd.R_drew)); exact HO638.out) hb)
 have n1_ := Aside0.mk (Kd.R_elder' (by (with_reducible repeat (first | apply Kd.R_alloc | apply Kd.R_drewN | apply Kd.R_drew)); exact HO642.out) (Kd.R_base ho0) hb)
 have n2_ := Aside0.mk (Kd.R_lower (Kd.R_new' ho0 (Kd.R_lt (by (with_reducible repeat (first | apply Kd.R_alloc | apply Kd.R_drewN | apply Kd.R_drew)); exact HO642.out))) (below_size zb))
 have n3_ := Aside0.mk (blk_below (g := gb95) (o := .cells #[.int .i64 t98, .slice Ao87 t97.length co87] 35 (0, 0)) zk hb)
 have n4_ := Aside0.mk (below_step zb hb)
 clear HO638
 clear HO642
 clear BK95
 clear HB
 have HO638 := n0_
 have HO642 := n1_
 have HO647 := n2_
 have BK95 := n3_
 have HB := n4_
 clear n0_ n1_ n2_ n3_ n4_
 (try clear hb)
 (try clear hb2)
 (try clear hk)
 (try clear hi)
 (try clear ho0)
 refine hK.out _ _ ⟨(blk_cell BK95.out 0).trans rfl, (blk_cell BK95.out 1).trans rfl⟩ (fun hHeld => ?_)
 clear hK K
 refine norm_ (a' := ?_) ?_ ?_
 rotate_left
 ·show Act.put _ (some 26) _ = _
  simp only [Act.put, List.setIfInBounds_toArray, List.set_cons_zero, List.set_cons_succ, i64_w, i32_w]
  rfl
 refine zp 3 27 ?_; refine zp 6 30 ?_; refine zp 7 2 ?_
 refine done_ (done_of HT_.out (by kernel_rfl)) ?_
 try go_wp2
 go_ret
 exact ⟨by first | rfl | (exact congrArg (fun b_ => Ending.returned (Value.bool b_)) HTR_.out) | (have HT2_ := HTR_.out; simp_all), zb⟩
end Go.Proofs.Ythagppmaofcllaa.P
