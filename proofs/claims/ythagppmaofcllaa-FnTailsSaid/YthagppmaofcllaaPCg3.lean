import Derived.Test.YthagppmaofcllaaZz
import Derived.Test.YthagppmaofcllaaP0
import Derived.Test.YthagppmaofcllaaPCcg0
import Derived.Test.YthagppmaofcllaaPCdgh0
import Derived.Test.YthagppmaofcllaaPCfg0
import Derived.Test.YthagppmaofcllaaPCfg1
import Derived.Test.YthagppmaofcllaaPCg2
import Derived.Test.YthagppmaofcllaaPCgh0
import Derived.Test.YthagppmaofcllaaPDcg0
import Derived.Test.YthagppmaofcllaaPDm0
import Derived.Test.YthagppmaofcllaaPDm1
import Derived.Test.YthagppmaofcllaaPE0
import Derived.Test.YthagppmaofcllaaWGuard
import Derived.Test.YthagppmaofcllaaWRepsOne
import Derived.Test.YthagppmaofcllaaWTab
import Derived.Test.YthagppmaofcllaaLv
namespace Go.Proofs.Ythagppmaofcllaa.P
open Go.RowKit Go.Proofs.YthagppmaofcllaaW.PrintWords Go.Proofs.YthagppmaofcllaaW.PrintLast Go.Proofs.YthagppmaofcllaaW.PrintMore
attribute [local go_sem] max2_int min2_int max_two min_two max_three min_three max_four min_four   -- for this text's walks alone
set_option linter.unusedVariables false
set_option linter.unusedSimpArgs false
attribute [local go_sem high] eqA48
theorem ys0 {p : Prop} (h : p := by refine zR ?_; exact (Kd.Qw (Kd.Qx (p := ⟨gb114, 3, none⟩) (Kd.Qx (p := ⟨gb114, 2, none⟩) (Kd.Qx (p := ⟨gb114, 1, none⟩) (Kd.Qx (p := ⟨gb114, 0, none⟩) (Kd.Qai HO123.out BK114.out (by decide)) (fun _ hk => hk.2) (.int .i64 t121)) (fun _ hk => hk.2) (.int .i64 t127)) (fun _ hk => hk.2) (.slice Ao22 t126.length co22)) (fun _ hk => hk.2) (.slice Ao23 t125.length co23)) (fun _ h_ => h_.1))) : p := h
theorem ys1 {p : Prop} (h : p := by refine zR ?_; exact (Kd.Qw (Kd.Qx (p := ⟨gb114, 3, none⟩) (Kd.Qx (p := ⟨gb114, 2, none⟩) (Kd.Qx (p := ⟨gb114, 1, none⟩) (Kd.Qx (p := ⟨gb114, 0, none⟩) (Kd.Qai HO124.out BK114.out (by decide)) (fun _ hk => hk.2) (.int .i64 t121)) (fun _ hk => hk.2) (.int .i64 t127)) (fun _ hk => hk.2) (.slice Ao22 t126.length co22)) (fun _ hk => hk.2) (.slice Ao23 t125.length co23)) (fun _ h_ => h_.1))) : p := h
theorem ys2 {p : Prop} (h : p := by refine zR ?_; exact (Kd.Qw (Kd.Qx (p := ⟨gb120, 2, none⟩) (Kd.Qx (p := ⟨gb120, 1, none⟩) (Kd.Qx (p := ⟨gb120, 0, none⟩) (Kd.Qai HO123.out BK120.out (by decide)) (fun _ hk => hk.2) (.int .i64 t117)) (fun _ hk => hk.2) (.int .i64 t139)) (fun _ hk => hk.2) (.slice Ao32 t119.length co32)) (fun _ h_ => h_.1))) : p := h
theorem ys3 {p : Prop} (h : p := by refine zR ?_; exact (Kd.Qw (Kd.Qx (p := ⟨gb120, 2, none⟩) (Kd.Qx (p := ⟨gb120, 1, none⟩) (Kd.Qx (p := ⟨gb120, 0, none⟩) (Kd.Qai HO141.out BK120.out (by decide)) (fun _ hk => hk.2) (.int .i64 t117)) (fun _ hk => hk.2) (.int .i64 t139)) (fun _ hk => hk.2) (.slice Ao32 t119.length co32)) (fun _ h_ => h_.1))) : p := h
theorem ys4 {p : Prop} (h : p := by refine zR ?_; exact (Kd.Qw (Kd.Qx (p := ⟨gb120, 2, none⟩) (Kd.Qx (p := ⟨gb120, 1, none⟩) (Kd.Qx (p := ⟨gb120, 0, none⟩) (Kd.Qai HO143.out BK120.out (by decide)) (fun _ hk => hk.2) (.int .i64 t117)) (fun _ hk => hk.2) (.int .i64 t139)) (fun _ hk => hk.2) (.slice Ao32 t119.length co32)) (fun _ h_ => h_.1))) : p := h
theorem ys5 {p : Prop} (h : p := by first | (go_simp; done) | (go_simp; rfl)) : p := h
theorem ys6 {p : Prop} (h : p := by rw [hg]; exact Nat.ne_of_lt (Ql (g := gb116) (o := .cells #[.slice Ao13 t115.length co13, .slice Ao15 t118.length co15] 27 (0, 0)) zk)) : p := h
theorem ys7 {p : Prop} (h : p := by rw [hg]; exact Nat.ne_of_gt (Ql (g := gb116) (o := .cells #[.slice Ao13 t115.length co13, .slice Ao15 t118.length co15] 27 (0, 0)) zk)) : p := h
def ZlFnTails.T6 : Bool × List (List Nat × List Nat) := (true, [([], []), ([], []), ([0, 1], [0, 1]), ([2], [2]), ([], []), ([4], [4]), ([3, 5], [3, 5]), ([6, 2, 0, 1, 2, 3, 4, 5, 6], [6])])
def ZlFnTails.B6 : List Nat := [0, 0, 3, 7, 0, 16, 63, 127]
theorem ZlFnTails.tab6 : rtab .any (opsOf Try.f9 6) = ZlFnTails.T6 := by kernel_rfl
theorem ZlFnTails.bits6 : waitsOk ZlFnTails.T6.2 ZlFnTails.B6 = true := by kernel_rfl
def ZlFnTails.T15 : Bool × List (List Nat × List Nat) := (true, [([], []), ([0], [0]), ([], []), ([1, 2], [1, 2]), ([3], [3]), ([], []), ([], []), ([5, 6], [5, 6]), ([7], [7]), ([4, 8], [4, 8])])
def ZlFnTails.B15 : List Nat := [0, 1, 0, 7, 15, 0, 0, 96, 224, 511]
theorem ZlFnTails.tab15 : rtab .any (opsOf Try.f9 15) = ZlFnTails.T15 := by kernel_rfl
theorem ZlFnTails.bits15 : waitsOk ZlFnTails.T15.2 ZlFnTails.B15 = true := by kernel_rfl
theorem ZlFnTails.fld59_0 (x0 x1 x2 x3 : Value) (w : World) : (Instr.field 59 (.agg #[x0, x1, x2, x3]) 0).run Try.prog w = .ok x0 w := by
 simp [Instr.field, run_underlying Try.underlying59, run_underlying Try.underlying2, part, isAgg, asAgg]
attribute [local go_sem] ZlFnTails.fld59_0
theorem ZlFnTails.fld51_2 (x0 x1 x2 : Value) (w : World) : (Instr.field 51 (.agg #[x0, x1, x2]) 2).run Try.prog w = .ok x2 w := by
 simp [Instr.field, run_underlying Try.underlying51, run_underlying Try.underlying37, part, isAgg, asAgg]
attribute [local go_sem] ZlFnTails.fld51_2
set_option maxHeartbeats 8000000 in
set_option maxRecDepth 100000 in
theorem ZlFnTails.calls (k : Nat) (A0 : Option Addr) (c0 : Nat) (l0 : List Int) (w : World) (hr0 : Kd.C (Kd.int .u8) w A0 l0.length l0) (hc0 : l0.length ≤ c0) (h : ZlFnTails.f k l0 = some true) :
 Calls Try.prog 9 #[.slice A0 l0.length c0] w fun e w' => e = .returned (.bool true) ∧ Below w.heap.size w w' := by
 have hu27 := Try.underlying27
 have hu59 := Try.underlying59
 have hu51 := Try.underlying51
 have hu48 := Try.underlying48
 have HR0 := Qz.mk hr0
 have HC0 := Qz.mk hc0
 clear hr0 hc0
 have HB := Qz.mk (Below.refl w.heap.size w)
 have H : ((ZllwBig.f l0).bind fun t145 => (if t145 = true then (some true) else ((ZsDrawCrashLog.f k l0).bind fun bt115 => ((ZiCrashLog.f k bt115.1 bt115.2.1 bt115.2.2).bind fun bt121 => (if bt121.1 = 0 then ((ZiRecsOf.f k bt115.1 bt115.2.1).bind fun bt134 => ((ZiRecsOf.f k bt121.2.2.1 bt121.2.2.2).bind fun bt117 => ((ZiUnpackRecs.f k bt115.1).bind fun bt140 => (if bt117.1 = 0 then (if (bt117.2.2.length : Int) = bt121.2.1 then (if (bt117.2.2.length : Int) < (bt140.2.2.length : Int) then (ZlFnTails.j0 k bt115.2.2 bt134.2.2 true bt115.1 bt115.2.1 bt117.1 bt117.2.1 bt117.2.2) else (if (bt117.2.2.length : Int) > (bt134.2.2.length : Int) then (ZlFnTails.j0 k bt115.2.2 bt134.2.2 true bt115.1 bt115.2.1 bt117.1 bt117.2.1 bt117.2.2) else (ZlFnTails.j0 k bt115.2.2 bt134.2.2 ((bt121.2.2.2.length : Int) != 0) bt115.1 bt115.2.1 bt117.1 bt117.2.1 bt117.2.2))) else (ZlFnTails.j0 k bt115.2.2 bt134.2.2 true bt115.1 bt115.2.1 bt117.1 bt117.2.1 bt117.2.2)) else (ZlFnTails.j0 k bt115.2.2 bt134.2.2 true bt115.1 bt115.2.1 bt117.1 bt117.2.1 bt117.2.2))))) else ((ZsCrashLog.f k bt115.1 bt115.2.1 bt115.2.2).bind fun bt142 => (some (bt142.1 == bt121.1)))))))) = some true := h
 clear h
 replace H := Option.bind_eq_some_iff.mp H
 obtain ⟨t145, A20, H⟩ := H
 replace H : (if t145 = true then (some true) else ((ZsDrawCrashLog.f k l0).bind fun bt115 => ((ZiCrashLog.f k bt115.1 bt115.2.1 bt115.2.2).bind fun bt121 => (if bt121.1 = 0 then ((ZiRecsOf.f k bt115.1 bt115.2.1).bind fun bt134 => ((ZiRecsOf.f k bt121.2.2.1 bt121.2.2.2).bind fun bt117 => ((ZiUnpackRecs.f k bt115.1).bind fun bt140 => (if bt117.1 = 0 then (if (bt117.2.2.length : Int) = bt121.2.1 then (if (bt117.2.2.length : Int) < (bt140.2.2.length : Int) then (ZlFnTails.j0 k bt115.2.2 bt134.2.2 true bt115.1 bt115.2.1 bt117.1 bt117.2.1 bt117.2.2) else (if (bt117.2.2.length : Int) > (bt134.2.2.length : Int) then (ZlFnTails.j0 k bt115.2.2 bt134.2.2 true bt115.1 bt115.2.1 bt117.1 bt117.2.1 bt117.2.2) else (ZlFnTails.j0 k bt115.2.2 bt134.2.2 ((bt121.2.2.2.length : Int) != 0) bt115.1 bt115.2.1 bt117.1 bt117.2.1 bt117.2.2))) else (ZlFnTails.j0 k bt115.2.2 bt134.2.2 true bt115.1 bt115.2.1 bt117.1 bt117.2.1 bt117.2.2)) else (ZlFnTails.j0 k bt115.2.2 bt134.2.2 true bt115.1 bt115.2.1 bt117.1 bt117.2.1 bt117.2.2))))) else ((ZsCrashLog.f k bt115.1 bt115.2.1 bt115.2.2).bind fun bt142 => (some (bt142.1 == bt121.1))))))) = some true := H
 have A2 := Qz.mk A20
 clear A20
 by_cases c3 : t145 = true
 ·subst c3
  have H1 : (some true) = some true := by rw [if_pos rfl] at H; first | done | exact H
  clear H
  have H := H1
  clear H1
  go_enter Try.func9, Try.ntmps9
  go_wp2_with (first | ((with_reducible refine gate_callee (f := 25) rfl ?_); refine Qat (some 11) rfl rfl Try.func25 (by kernel_rfl) rfl #[.slice A0 l0.length c0] rfl zm ?_; (with_reducible refine (ZllwBig.calls _ _ l0 true _ ?side1 ?side2 A2.out).mono ?_); (case side1 => exact zc HR0.out); (case side2 => exact HC0.out); rintro e w' ⟨rfl, ⟨nd, rfl⟩⟩; refine ⟨_, rfl, ?_⟩))
  go_ret
  exact ⟨ze, zb⟩
 replace c3 := Bool.eq_false_iff.mpr c3
 subst c3
 have H1 : ((ZsDrawCrashLog.f k l0).bind fun bt115 => ((ZiCrashLog.f k bt115.1 bt115.2.1 bt115.2.2).bind fun bt121 => (if bt121.1 = 0 then ((ZiRecsOf.f k bt115.1 bt115.2.1).bind fun bt134 => ((ZiRecsOf.f k bt121.2.2.1 bt121.2.2.2).bind fun bt117 => ((ZiUnpackRecs.f k bt115.1).bind fun bt140 => (if bt117.1 = 0 then (if (bt117.2.2.length : Int) = bt121.2.1 then (if (bt117.2.2.length : Int) < (bt140.2.2.length : Int) then (ZlFnTails.j0 k bt115.2.2 bt134.2.2 true bt115.1 bt115.2.1 bt117.1 bt117.2.1 bt117.2.2) else (if (bt117.2.2.length : Int) > (bt134.2.2.length : Int) then (ZlFnTails.j0 k bt115.2.2 bt134.2.2 true bt115.1 bt115.2.1 bt117.1 bt117.2.1 bt117.2.2) else (ZlFnTails.j0 k bt115.2.2 bt134.2.2 ((bt121.2.2.2.length : Int) != 0) bt115.1 bt115.2.1 bt117.1 bt117.2.1 bt117.2.2))) else (ZlFnTails.j0 k bt115.2.2 bt134.2.2 true bt115.1 bt115.2.1 bt117.1 bt117.2.1 bt117.2.2)) else (ZlFnTails.j0 k bt115.2.2 bt134.2.2 true bt115.1 bt115.2.1 bt117.1 bt117.2.1 bt117.2.2))))) else ((ZsCrashLog.f k bt115.1 bt115.2.1 bt115.2.2).bind fun bt142 => (some (bt142.1 == bt121.1)))))) = some true := by rw [if_neg (show ¬ (false = true) by decide)] at H; first | done | exact H
 clear H
 have H := H1
 clear H1
 replace H := Option.bind_eq_some_iff.mp H
 obtain ⟨⟨t115, t118, t132⟩, A40, H⟩ := H
 replace H : ((ZiCrashLog.f k t115 t118 t132).bind fun bt121 => (if bt121.1 = 0 then ((ZiRecsOf.f k t115 t118).bind fun bt134 => ((ZiRecsOf.f k bt121.2.2.1 bt121.2.2.2).bind fun bt117 => ((ZiUnpackRecs.f k t115).bind fun bt140 => (if bt117.1 = 0 then (if (bt117.2.2.length : Int) = bt121.2.1 then (if (bt117.2.2.length : Int) < (bt140.2.2.length : Int) then (ZlFnTails.j0 k t132 bt134.2.2 true t115 t118 bt117.1 bt117.2.1 bt117.2.2) else (if (bt117.2.2.length : Int) > (bt134.2.2.length : Int) then (ZlFnTails.j0 k t132 bt134.2.2 true t115 t118 bt117.1 bt117.2.1 bt117.2.2) else (ZlFnTails.j0 k t132 bt134.2.2 ((bt121.2.2.2.length : Int) != 0) t115 t118 bt117.1 bt117.2.1 bt117.2.2))) else (ZlFnTails.j0 k t132 bt134.2.2 true t115 t118 bt117.1 bt117.2.1 bt117.2.2)) else (ZlFnTails.j0 k t132 bt134.2.2 true t115 t118 bt117.1 bt117.2.1 bt117.2.2))))) else ((ZsCrashLog.f k t115 t118 t132).bind fun bt142 => (some (bt142.1 == bt121.1))))) = some true := H
 have A4 := Qz.mk A40
 clear A40
 replace H := Option.bind_eq_some_iff.mp H
 obtain ⟨⟨t121, t127, t126, t125⟩, A50, H⟩ := H
 replace H : (if t121 = 0 then ((ZiRecsOf.f k t115 t118).bind fun bt134 => ((ZiRecsOf.f k t126 t125).bind fun bt117 => ((ZiUnpackRecs.f k t115).bind fun bt140 => (if bt117.1 = 0 then (if (bt117.2.2.length : Int) = t127 then (if (bt117.2.2.length : Int) < (bt140.2.2.length : Int) then (ZlFnTails.j0 k t132 bt134.2.2 true t115 t118 bt117.1 bt117.2.1 bt117.2.2) else (if (bt117.2.2.length : Int) > (bt134.2.2.length : Int) then (ZlFnTails.j0 k t132 bt134.2.2 true t115 t118 bt117.1 bt117.2.1 bt117.2.2) else (ZlFnTails.j0 k t132 bt134.2.2 ((t125.length : Int) != 0) t115 t118 bt117.1 bt117.2.1 bt117.2.2))) else (ZlFnTails.j0 k t132 bt134.2.2 true t115 t118 bt117.1 bt117.2.1 bt117.2.2)) else (ZlFnTails.j0 k t132 bt134.2.2 true t115 t118 bt117.1 bt117.2.1 bt117.2.2))))) else ((ZsCrashLog.f k t115 t118 t132).bind fun bt142 => (some (bt142.1 == t121)))) = some true := H
 have A5 := Qz.mk A50
 clear A50
 by_cases c6 : t121 = 0
 ·rw [if_pos c6] at H
  have c6b0 : (t121 == 0) = true := beq_iff_eq.mpr c6
  have c6b1 : (t121 != 0) = false := bne_eq_false_iff_eq.mpr c6
  clear c6
  replace H := Option.bind_eq_some_iff.mp H
  obtain ⟨⟨t134, t151, t122⟩, A70, H⟩ := H
  replace H : ((ZiRecsOf.f k t126 t125).bind fun bt117 => ((ZiUnpackRecs.f k t115).bind fun bt140 => (if bt117.1 = 0 then (if (bt117.2.2.length : Int) = t127 then (if (bt117.2.2.length : Int) < (bt140.2.2.length : Int) then (ZlFnTails.j0 k t132 t122 true t115 t118 bt117.1 bt117.2.1 bt117.2.2) else (if (bt117.2.2.length : Int) > (t122.length : Int) then (ZlFnTails.j0 k t132 t122 true t115 t118 bt117.1 bt117.2.1 bt117.2.2) else (ZlFnTails.j0 k t132 t122 ((t125.length : Int) != 0) t115 t118 bt117.1 bt117.2.1 bt117.2.2))) else (ZlFnTails.j0 k t132 t122 true t115 t118 bt117.1 bt117.2.1 bt117.2.2)) else (ZlFnTails.j0 k t132 t122 true t115 t118 bt117.1 bt117.2.1 bt117.2.2)))) = some true := H
  have A7 := Qz.mk A70
  clear A70
  replace H := Option.bind_eq_some_iff.mp H
  obtain ⟨⟨t117, t139, t119⟩, A80, H⟩ := H
  replace H : ((ZiUnpackRecs.f k t115).bind fun bt140 => (if t117 = 0 then (if (t119.length : Int) = t127 then (if (t119.length : Int) < (bt140.2.2.length : Int) then (ZlFnTails.j0 k t132 t122 true t115 t118 t117 t139 t119) else (if (t119.length : Int) > (t122.length : Int) then (ZlFnTails.j0 k t132 t122 true t115 t118 t117 t139 t119) else (ZlFnTails.j0 k t132 t122 ((t125.length : Int) != 0) t115 t118 t117 t139 t119))) else (ZlFnTails.j0 k t132 t122 true t115 t118 t117 t139 t119)) else (ZlFnTails.j0 k t132 t122 true t115 t118 t117 t139 t119))) = some true := H
  have A8 := Qz.mk A80
  clear A80
  replace H := Option.bind_eq_some_iff.mp H
  obtain ⟨⟨t140, t152, t144⟩, A90, H⟩ := H
  replace H : (if t117 = 0 then (if (t119.length : Int) = t127 then (if (t119.length : Int) < (t144.length : Int) then (ZlFnTails.j0 k t132 t122 true t115 t118 t117 t139 t119) else (if (t119.length : Int) > (t122.length : Int) then (ZlFnTails.j0 k t132 t122 true t115 t118 t117 t139 t119) else (ZlFnTails.j0 k t132 t122 ((t125.length : Int) != 0) t115 t118 t117 t139 t119))) else (ZlFnTails.j0 k t132 t122 true t115 t118 t117 t139 t119)) else (ZlFnTails.j0 k t132 t122 true t115 t118 t117 t139 t119)) = some true := H
  have A9 := Qz.mk A90
  clear A90
  have HC10 := Qz.mk H
  clear H
  go_enter Try.func9, Try.ntmps9
  go_upto_region 10 with (first | ((with_reducible refine gate_callee (f := 25) rfl ?_); refine Qat (some 11) rfl rfl Try.func25 (by kernel_rfl) rfl #[.slice A0 l0.length c0] rfl zm ?_; (with_reducible refine (ZllwBig.calls _ _ l0 false _ ?side1 ?side2 A2.out).mono ?_); (case side1 => exact zc HR0.out); (case side2 => exact HC0.out); rintro e w' ⟨rfl, ⟨nd, rfl⟩⟩; refine ⟨_, rfl, ?_⟩) | ((with_reducible refine gate_callee (f := 44) rfl ?_); refine Qat (some 14) rfl rfl Try.func44 (by kernel_rfl) rfl #[.slice A0 l0.length c0] rfl zm ?_; (with_reducible refine (ZsDrawCrashLog.calls k _ _ l0 t115 t118 t132 _ ?side1 ?side2 A4.out).mono ?_); (case side1 => exact zc HR0.out); (case side2 => exact HC0.out); rintro e w11 ⟨v153, v154, rfl, ho0, ho1, hb⟩; refine ⟨_, rfl, ?_⟩; have n0_ := Qz.mk (Kd.Qan ho0 (Qp zb)); have n1_ := Qz.mk (Kd.Qan ho1 (Qp zb)); have n2_ := Qz.mk (Qq zb hb); clear HB; have HO123 := n0_; have HO124 := n1_; have HB := n2_; clear n0_ n1_ n2_; (try clear hb); (try clear hb2); (try clear hk); (try clear hi); (try clear ho0); (try clear ho1)) | ((with_reducible refine gate_dst (N := 3) rfl ?_); (try (refine gate_guard (by rfl) ?_; dsimp only)); refine box_event ?hg (N := 3) ?hd (cs := #[.slice none 0 0, .slice none 0 0]) (t := 27) ?hr ?_; (case hd => rfl); (case hg => rfl); (case hr => exact ys5); intro gb116 hg w12 hbox hb; have n0_ := Qz.mk (Kd.Qy (zr HO123) hb); have n1_ := Qz.mk (Kd.Qy (zr HO124) hb); have n2_ := Qz.mk (Qq zb hb); have n3_ := Qz.mk (hbox); have n4_ := Qz.mk ((zh hg : w.heap.size ≤ gb116)); have n5_ := n4_; clear HO123; clear HO124; clear HB; have HO123 := n0_; have HO124 := n1_; have HB := n2_; have BK116 := n3_; have GW116 := n4_; have GE116 := n5_; clear n0_ n1_ n2_ n3_ n4_ n5_; clear hb hbox hg; obtain ⟨Ao13, co13, eo13⟩ := Kd.R_slice HO123.out; subst eo13; obtain ⟨z14_0, z14_1, j14_0, j14_1⟩ := Lv.blks2 BK116.out; obtain ⟨Ao15, co15, eo15⟩ := Kd.R_slice HO124.out; subst eo15) | ((with_reducible refine gate_store (t := 27) (p := 3) rfl ?_); refine store_event (t := 27) (p := 3) (v := ?vo_w16) (w1 := ((w12.setCell ⟨gb116, 0, none⟩ (.slice Ao13 t115.length co13)).setCell ⟨gb116, 1, none⟩ (.slice Ao15 t118.length co15))) ?hg ?ho ?hn ?hr ?_; (case ho => rfl); (case hg => rfl); (case hn => rfl); (case hr => exact ys5); intro w16 hw; have n0_ : Qz (Kd.R (Kd.int .u8) 5 w16 w.heap.size (fun k_ => some k_ ≠ (.slice Ao15 t118.length co15 : Value).ownBlock) (.slice Ao13 t115.length co13) t115) := ⟨(by rw [hw]; exact (by refine zR ?_; exact Kd.Qw (Kd.Qx (p := ⟨gb116, 1, none⟩) (Kd.Qx (p := ⟨gb116, 0, none⟩) (Kd.Qai HO123.out BK116.out (by decide)) (fun _ hk => hk.2) (.slice Ao13 t115.length co13)) (fun _ hk => hk.2) (.slice Ao15 t118.length co15)) (fun _ hk => hk.1)))⟩; have n1_ : Qz (Kd.R (Kd.int .u8) 5 w16 w.heap.size (fun k_ => some k_ ≠ (.slice Ao13 t115.length co13 : Value).ownBlock) (.slice Ao15 t118.length co15) t118) := ⟨(by rw [hw]; exact (by refine zR ?_; exact Kd.Qw (Kd.Qx (p := ⟨gb116, 1, none⟩) (Kd.Qx (p := ⟨gb116, 0, none⟩) (Kd.Qai HO124.out BK116.out (by decide)) (fun _ hk => hk.2) (.slice Ao13 t115.length co13)) (fun _ hk => hk.2) (.slice Ao15 t118.length co15)) (fun _ hk => hk.1)))⟩; have n2_ : Qz (w16.heap[gb116]? = some (.cells #[.slice Ao13 t115.length co13, .slice Ao15 t118.length co15] 27 (0, 0))) := ⟨(by rw [hw]; exact (by refine zQ ?_; refine Qk (cs := #[.slice Ao13 t115.length co13, .slice none 0 0]) ?_ 1 _ rfl; refine zQ ?_; refine Qk (cs := #[.slice none 0 0, .slice none 0 0]) ?_ 0 _ rfl; refine zQ ?_; exact BK116.out))⟩; have n3_ : Qz (Below w.heap.size w w16) := ⟨(by rw [hw]; exact zb)⟩; clear hw; clear HO123; clear HO124; clear BK116; clear HB; have HO123 := n0_; have HO124 := n1_; have BK116 := n2_; have HB := n3_; clear n0_ n1_ n2_ n3_; obtain ⟨z17_0, z17_1, j17_0, j17_1⟩ := Lv.blks2 BK116.out) | ((with_reducible refine gate_callee (f := 43) rfl ?_); refine Qat (some 19) rfl rfl Try.func43 (by kernel_rfl) rfl #[.agg #[.slice Ao13 t115.length co13, .slice Ao15 t118.length co15], .int .i64 t132] rfl zm ?_; (with_reducible refine (ZiCrashLog.calls k (fun k_ => some k_ = (.slice Ao13 t115.length co13 : Value).ownBlock) _ _ t115 (fun k_ => some k_ = (.slice Ao15 t118.length co15 : Value).ownBlock) _ _ t118 t132 t121 t127 t126 t125 _ ?side1 ?side2 A5.out).mono ?_); (case side1 => exact Kd.R_V (Kd.R_tight rfl (Kd.Qai (HO123.out) BK116.out (by decide)))); (case side2 => exact Kd.R_V (Kd.R_tight rfl (Kd.Qai (HO124.out) BK116.out (by decide)))); rintro e w18 ⟨v147, v148, rfl, ho0, ho1, hb⟩; refine ⟨_, rfl, ?_⟩; have n0_ := Qz.mk (Kd.Qw (Kd.Qam (Kd.Qam (Kd.R_old (zr HO123) hb) (Kd.Qah ho0)) (Kd.Qah ho1)) (fun _ h_ => h_.1)); have n1_ := Qz.mk (Kd.Qw (Kd.Qam (Kd.Qam (Kd.R_old (zr HO124) hb) (Kd.Qah ho0)) (Kd.Qah ho1)) (fun _ h_ => h_.1)); have n2_ := Qz.mk (Kd.Qan (Kd.Qal (Kd.Qal (Kd.Qw (ok' := fun k_ => some k_ ≠ (v148 : Value).ownBlock) ho0 (fun _ hk_ => hk_.2)) (Kd.R_lt (zr HO123))) (Kd.R_lt (zr HO124))) (Qp zb)); have n3_ := Qz.mk (Kd.Qan (Kd.Qal (Kd.Qal (Kd.Qw (ok' := fun k_ => some k_ ≠ (v147 : Value).ownBlock) ho1 (fun _ hk_ => hk_.2)) (Kd.R_lt (zr HO123))) (Kd.R_lt (zr HO124))) (Qp zb)); have n4_ := Qz.mk (Qi (g := gb116) (o := .cells #[.slice Ao13 t115.length co13, .slice Ao15 t118.length co15] 27 (0, 0)) zk hb); have n5_ := Qz.mk (Qq zb hb); clear HO123; clear HO124; clear BK116; clear HB; have HO123 := n0_; have HO124 := n1_; have HO135 := n2_; have HO136 := n3_; have BK116 := n4_; have HB := n5_; clear n0_ n1_ n2_ n3_ n4_ n5_; (try clear hb); (try clear hb2); (try clear hk); (try clear hi); (try clear ho0); (try clear ho1)) | ((with_reducible refine gate_dst (N := 5) rfl ?_); (try (refine gate_guard (by rfl) ?_; dsimp only)); refine box_event ?hg (N := 5) ?hd (cs := #[.int .i64 0, .int .i64 0, .slice none 0 0, .slice none 0 0]) (t := 59) ?hr ?_; (case hd => rfl); (case hg => rfl); (case hr => exact ys5); intro gb114 hg w19 hbox hb; have n0_ := Qz.mk (Kd.Qy (zr HO123) hb); have n1_ := Qz.mk (Kd.Qy (zr HO124) hb); have n2_ := Qz.mk (Kd.Qy (zr HO135) hb); have n3_ := Qz.mk (Kd.Qy (zr HO136) hb); have n4_ := Qz.mk (Qi (g := gb116) (o := .cells #[.slice Ao13 t115.length co13, .slice Ao15 t118.length co15] 27 (0, 0)) zk hb); have n5_ := Qz.mk (Qq zb hb); have n6_ := Qz.mk (hbox); have n7_ := Qz.mk ((zh hg : w.heap.size ≤ gb114)); have n8_ := n7_; have n9_ := Qz.mk ((ys6 : gb116 ≠ gb114)); have n10_ := Qz.mk ((ys7 : gb114 ≠ gb116)); clear HO123; clear HO124; clear HO135; clear HO136; clear BK116; clear HB; have HO123 := n0_; have HO124 := n1_; have HO135 := n2_; have HO136 := n3_; have BK116 := n4_; have HB := n5_; have BK114 := n6_; have GW114 := n7_; have GE114 := n8_; have NB1110_1119 := n9_; have NB1119_1110 := n10_; clear n0_ n1_ n2_ n3_ n4_ n5_ n6_ n7_ n8_ n9_ n10_; clear hb hbox hg; have hnb20 := NB1119_1110.out; have hnc20 := NB1110_1119.out; obtain ⟨z21_0, z21_1, z21_2, z21_3, j21_0, j21_1, j21_2, j21_3⟩ := Lv.blks4 BK114.out; obtain ⟨Ao22, co22, eo22⟩ := Kd.R_slice HO135.out; subst eo22; obtain ⟨Ao23, co23, eo23⟩ := Kd.R_slice HO136.out; subst eo23; obtain ⟨z24_0, z24_1, j24_0, j24_1⟩ := Lv.blks2 BK116.out) | ((with_reducible refine gate_callee (f := 45) rfl ?_); refine Qat (some 31) rfl rfl Try.func45 (by kernel_rfl) rfl #[.agg #[.slice Ao13 t115.length co13, .slice Ao15 t118.length co15]] rfl zm ?_; (with_reducible refine (ZiRecsOf.calls k _ _ t115 _ _ t118 t134 t151 t122 _ ?side1 ?side2 ?side3 ?side4 A7.out).mono ?_); (case side1 => refine (Kd.Qaj (e := 5) (base := w.heap.size) (ok := fun k_ => ((some k_ ≠ (.slice Ao15 t118.length co15 : Value).ownBlock ∧ some k_ ≠ (.slice Ao22 t126.length co22 : Value).ownBlock) ∧ some k_ ≠ (.slice Ao23 t125.length co23 : Value).ownBlock)) (n := t115.length) (c := co13) ?_).2.2; exact ys0); (case side2 => exact (Kd.Qaj HO123.out).2.1); (case side3 => refine (Kd.Qaj (e := 5) (base := w.heap.size) (ok := fun k_ => ((some k_ ≠ (.slice Ao13 t115.length co13 : Value).ownBlock ∧ some k_ ≠ (.slice Ao22 t126.length co22 : Value).ownBlock) ∧ some k_ ≠ (.slice Ao23 t125.length co23 : Value).ownBlock)) (n := t118.length) (c := co15) ?_).2.2; exact ys1); (case side4 => exact (Kd.Qaj HO124.out).2.1); rintro e w25 ⟨v146, rfl, ho0, hb⟩; refine ⟨_, rfl, ?_⟩; have n0_ := Qz.mk (Kd.Qy ys0 hb); have n1_ := Qz.mk (Kd.Qy ys1 hb); have n2_ := Qz.mk (Kd.Qy (by refine zR ?_; exact (Kd.Qw (Kd.Qx (p := ⟨gb114, 3, none⟩) (Kd.Qx (p := ⟨gb114, 2, none⟩) (Kd.Qx (p := ⟨gb114, 1, none⟩) (Kd.Qx (p := ⟨gb114, 0, none⟩) (Kd.Qai HO135.out BK114.out (by decide)) (fun _ hk => hk.2) (.int .i64 t121)) (fun _ hk => hk.2) (.int .i64 t127)) (fun _ hk => hk.2) (.slice Ao22 t126.length co22)) (fun _ hk => hk.2) (.slice Ao23 t125.length co23)) (fun _ h_ => h_.1))) hb); have n3_ := Qz.mk (Kd.Qy (by refine zR ?_; exact (Kd.Qw (Kd.Qx (p := ⟨gb114, 3, none⟩) (Kd.Qx (p := ⟨gb114, 2, none⟩) (Kd.Qx (p := ⟨gb114, 1, none⟩) (Kd.Qx (p := ⟨gb114, 0, none⟩) (Kd.Qai HO136.out BK114.out (by decide)) (fun _ hk => hk.2) (.int .i64 t121)) (fun _ hk => hk.2) (.int .i64 t127)) (fun _ hk => hk.2) (.slice Ao22 t126.length co22)) (fun _ hk => hk.2) (.slice Ao23 t125.length co23)) (fun _ h_ => h_.1))) hb); have n4_ := Qz.mk (Kd.Qan ho0 (Qp zb)); have n5_ := Qz.mk (Qi (g := gb116) (o := .cells #[.slice Ao13 t115.length co13, .slice Ao15 t118.length co15] 27 (0, 0)) (by refine zQ ?_; refine blk_far ?_ NB1110_1119.out _; refine zQ ?_; refine blk_far ?_ NB1110_1119.out _; refine zQ ?_; refine blk_far ?_ NB1110_1119.out _; refine zQ ?_; refine blk_far ?_ NB1110_1119.out _; refine zQ ?_; exact BK116.out) hb); have n6_ := Qz.mk (Qi (g := gb114) (o := .cells #[.int .i64 t121, .int .i64 t127, .slice Ao22 t126.length co22, .slice Ao23 t125.length co23] 59 (0, 0)) (by refine zQ ?_; refine Qk (cs := #[.int .i64 t121, .int .i64 t127, .slice Ao22 t126.length co22, .slice none 0 0]) ?_ 3 _ rfl; refine zQ ?_; refine Qk (cs := #[.int .i64 t121, .int .i64 t127, .slice none 0 0, .slice none 0 0]) ?_ 2 _ rfl; refine zQ ?_; refine Qk (cs := #[.int .i64 t121, .int .i64 0, .slice none 0 0, .slice none 0 0]) ?_ 1 _ rfl; refine zQ ?_; refine Qk (cs := #[.int .i64 0, .int .i64 0, .slice none 0 0, .slice none 0 0]) ?_ 0 _ rfl; refine zQ ?_; exact BK114.out) hb); have n7_ := Qz.mk (Qq zb hb); clear HO123; clear HO124; clear HO135; clear HO136; clear BK116; clear BK114; clear HB; have HO123 := n0_; have HO124 := n1_; have HO135 := n2_; have HO136 := n3_; have HO141 := n4_; have BK116 := n5_; have BK114 := n6_; have HB := n7_; clear n0_ n1_ n2_ n3_ n4_ n5_ n6_ n7_; (try clear hb); (try clear hb2); (try clear hk); (try clear hi); (try clear ho0); obtain ⟨z26_0, z26_1, z26_2, z26_3, j26_0, j26_1, j26_2, j26_3⟩ := Lv.blks4 BK114.out) | ((with_reducible refine gate_callee (f := 45) rfl ?_); refine Qat (some 35) rfl rfl Try.func45 (by kernel_rfl) rfl #[.agg #[.slice Ao22 t126.length co22, .slice Ao23 t125.length co23]] rfl zm ?_; (with_reducible refine (ZiRecsOf.calls k _ _ t126 _ _ t125 t117 t139 t119 _ ?side1 ?side2 ?side3 ?side4 A8.out).mono ?_); (case side1 => exact zc (Kd.Qaj HO135.out).2.2); (case side2 => exact (Kd.Qaj HO135.out).2.1); (case side3 => exact zc (Kd.Qaj HO136.out).2.2); (case side4 => exact (Kd.Qaj HO136.out).2.1); rintro e w27 ⟨v165, rfl, ho0, hb⟩; refine ⟨_, rfl, ?_⟩; have n0_ := Qz.mk (Kd.Qy (zr HO123) hb); have n1_ := Qz.mk (Kd.Qy (zr HO124) hb); have n2_ := Qz.mk (Kd.Qy (zr HO135) hb); have n3_ := Qz.mk (Kd.Qy (zr HO136) hb); have n4_ := Qz.mk (Kd.R_elder' (zr HO141) (Kd.Qah ho0) hb); have n5_ := Qz.mk (Kd.Qan (Kd.Qal ho0 (Kd.R_lt (zr HO141))) (Qp zb)); have n6_ := Qz.mk (Qi (g := gb116) (o := .cells #[.slice Ao13 t115.length co13, .slice Ao15 t118.length co15] 27 (0, 0)) zk hb); have n7_ := Qz.mk (Qi (g := gb114) (o := .cells #[.int .i64 t121, .int .i64 t127, .slice Ao22 t126.length co22, .slice Ao23 t125.length co23] 59 (0, 0)) zk hb); have n8_ := Qz.mk (Qq zb hb); clear HO123; clear HO124; clear HO135; clear HO136; clear HO141; clear BK116; clear BK114; clear HB; have HO123 := n0_; have HO124 := n1_; have HO135 := n2_; have HO136 := n3_; have HO141 := n4_; have HO143 := n5_; have BK116 := n6_; have BK114 := n7_; have HB := n8_; clear n0_ n1_ n2_ n3_ n4_ n5_ n6_ n7_ n8_; (try clear hb); (try clear hb2); (try clear hk); (try clear hi); (try clear ho0)) | ((with_reducible refine gate_dst (N := 7) rfl ?_); (try (refine gate_guard (by rfl) ?_; dsimp only)); refine box_event ?hg (N := 7) ?hd (cs := #[.int .i64 0, .int .i64 0, .slice none 0 0]) (t := 51) ?hr ?_; (case hd => rfl); (case hg => rfl); (case hr => exact ys5); intro gb120 hg w28 hbox hb; have n0_ := Qz.mk (Kd.Qy (zr HO123) hb); have n1_ := Qz.mk (Kd.Qy (zr HO124) hb); have n2_ := Qz.mk (Kd.Qy (zr HO135) hb); have n3_ := Qz.mk (Kd.Qy (zr HO136) hb); have n4_ := Qz.mk (Kd.Qy (zr HO141) hb); have n5_ := Qz.mk (Kd.Qy (zr HO143) hb); have n6_ := Qz.mk (Qi (g := gb116) (o := .cells #[.slice Ao13 t115.length co13, .slice Ao15 t118.length co15] 27 (0, 0)) zk hb); have n7_ := Qz.mk (Qi (g := gb114) (o := .cells #[.int .i64 t121, .int .i64 t127, .slice Ao22 t126.length co22, .slice Ao23 t125.length co23] 59 (0, 0)) zk hb); have n8_ := Qz.mk (Qq zb hb); have n9_ := Qz.mk (hbox); have n10_ := Qz.mk ((zh hg : w.heap.size ≤ gb120)); have n11_ := n10_; have n12_ := Qz.mk ((ys6 : gb116 ≠ gb120)); have n13_ := Qz.mk ((ys7 : gb120 ≠ gb116)); have n14_ := Qz.mk ((by rw [hg]; exact Nat.ne_of_lt (Ql (g := gb114) (o := .cells #[.int .i64 t121, .int .i64 t127, .slice Ao22 t126.length co22, .slice Ao23 t125.length co23] 59 (0, 0)) zk) : gb114 ≠ gb120)); have n15_ := Qz.mk ((by rw [hg]; exact Nat.ne_of_gt (Ql (g := gb114) (o := .cells #[.int .i64 t121, .int .i64 t127, .slice Ao22 t126.length co22, .slice Ao23 t125.length co23] 59 (0, 0)) zk) : gb120 ≠ gb114)); clear HO123; clear HO124; clear HO135; clear HO136; clear HO141; clear HO143; clear BK116; clear BK114; clear HB; have HO123 := n0_; have HO124 := n1_; have HO135 := n2_; have HO136 := n3_; have HO141 := n4_; have HO143 := n5_; have BK116 := n6_; have BK114 := n7_; have HB := n8_; have BK120 := n9_; have GW120 := n10_; have GE120 := n11_; have NB1110_1138 := n12_; have NB1138_1110 := n13_; have NB1119_1138 := n14_; have NB1138_1119 := n15_; clear n0_ n1_ n2_ n3_ n4_ n5_ n6_ n7_ n8_ n9_ n10_ n11_ n12_ n13_ n14_ n15_; clear hb hbox hg; have hnb29 := NB1138_1110.out; have hnc29 := NB1110_1138.out; have hnb30 := NB1138_1119.out; have hnc30 := NB1119_1138.out; obtain ⟨z31_0, z31_1, z31_2, j31_0, j31_1, j31_2⟩ := Lv.blks3 BK120.out; obtain ⟨Ao32, co32, eo32⟩ := Kd.R_slice HO143.out; subst eo32; obtain ⟨z33_0, z33_1, j33_0, j33_1⟩ := Lv.blks2 BK116.out) | ((with_reducible refine gate_callee (f := 30) rfl ?_); refine Qat (some 38) rfl rfl Try.func30 (by kernel_rfl) rfl #[.slice Ao13 t115.length co13] rfl zm ?_; (with_reducible refine (ZiUnpackRecs.calls k _ _ t115 t140 t152 t144 _ ?side1 ?side2 A9.out).mono ?_); (case side1 => refine (Kd.Qaj (e := 5) (base := w.heap.size) (ok := fun k_ => ((some k_ ≠ (.slice Ao15 t118.length co15 : Value).ownBlock ∧ some k_ ≠ (.slice Ao22 t126.length co22 : Value).ownBlock) ∧ some k_ ≠ (.slice Ao23 t125.length co23 : Value).ownBlock)) (n := t115.length) (c := co13) ?_).2.2; exact ys2); (case side2 => exact (Kd.Qaj HO123.out).2.1); rintro e w34 ⟨v166, rfl, ho0, hb⟩; refine ⟨_, rfl, ?_⟩; have n0_ := Qz.mk (Kd.Qy ys2 hb); have n1_ := Qz.mk (Kd.Qy (by refine zR ?_; exact (Kd.Qw (Kd.Qx (p := ⟨gb120, 2, none⟩) (Kd.Qx (p := ⟨gb120, 1, none⟩) (Kd.Qx (p := ⟨gb120, 0, none⟩) (Kd.Qai HO124.out BK120.out (by decide)) (fun _ hk => hk.2) (.int .i64 t117)) (fun _ hk => hk.2) (.int .i64 t139)) (fun _ hk => hk.2) (.slice Ao32 t119.length co32)) (fun _ h_ => h_.1))) hb); have n2_ := Qz.mk (Kd.Qy (by refine zR ?_; exact (Kd.Qw (Kd.Qx (p := ⟨gb120, 2, none⟩) (Kd.Qx (p := ⟨gb120, 1, none⟩) (Kd.Qx (p := ⟨gb120, 0, none⟩) (Kd.Qai HO135.out BK120.out (by decide)) (fun _ hk => hk.2) (.int .i64 t117)) (fun _ hk => hk.2) (.int .i64 t139)) (fun _ hk => hk.2) (.slice Ao32 t119.length co32)) (fun _ h_ => h_.1))) hb); have n3_ := Qz.mk (Kd.Qy (by refine zR ?_; exact (Kd.Qw (Kd.Qx (p := ⟨gb120, 2, none⟩) (Kd.Qx (p := ⟨gb120, 1, none⟩) (Kd.Qx (p := ⟨gb120, 0, none⟩) (Kd.Qai HO136.out BK120.out (by decide)) (fun _ hk => hk.2) (.int .i64 t117)) (fun _ hk => hk.2) (.int .i64 t139)) (fun _ hk => hk.2) (.slice Ao32 t119.length co32)) (fun _ h_ => h_.1))) hb); have n4_ := Qz.mk (Kd.R_elder' ys3 (Kd.Qah ho0) hb); have n5_ := Qz.mk (Kd.R_elder' ys4 (Kd.Qah ho0) hb); have n6_ := Qz.mk (Kd.Qan (Kd.Qal (Kd.Qal ho0 (Kd.R_lt ys3)) (Kd.R_lt ys4)) (Qp zb)); have n7_ := Qz.mk (Qi (g := gb116) (o := .cells #[.slice Ao13 t115.length co13, .slice Ao15 t118.length co15] 27 (0, 0)) (by refine zQ ?_; refine blk_far ?_ NB1110_1138.out _; refine zQ ?_; refine blk_far ?_ NB1110_1138.out _; refine zQ ?_; refine blk_far ?_ NB1110_1138.out _; refine zQ ?_; exact BK116.out) hb); have n8_ := Qz.mk (Qi (g := gb114) (o := .cells #[.int .i64 t121, .int .i64 t127, .slice Ao22 t126.length co22, .slice Ao23 t125.length co23] 59 (0, 0)) (by refine zQ ?_; refine blk_far ?_ NB1119_1138.out _; refine zQ ?_; refine blk_far ?_ NB1119_1138.out _; refine zQ ?_; refine blk_far ?_ NB1119_1138.out _; refine zQ ?_; exact BK114.out) hb); have n9_ := Qz.mk (Qi (g := gb120) (o := .cells #[.int .i64 t117, .int .i64 t139, .slice Ao32 t119.length co32] 51 (0, 0)) (by refine zQ ?_; refine Qk (cs := #[.int .i64 t117, .int .i64 t139, .slice none 0 0]) ?_ 2 _ rfl; refine zQ ?_; refine Qk (cs := #[.int .i64 t117, .int .i64 0, .slice none 0 0]) ?_ 1 _ rfl; refine zQ ?_; refine Qk (cs := #[.int .i64 0, .int .i64 0, .slice none 0 0]) ?_ 0 _ rfl; refine zQ ?_; exact BK120.out) hb); have n10_ := Qz.mk (Qq zb hb); clear HO123; clear HO124; clear HO135; clear HO136; clear HO141; clear HO143; clear BK116; clear BK114; clear BK120; clear HB; have HO123 := n0_; have HO124 := n1_; have HO135 := n2_; have HO136 := n3_; have HO141 := n4_; have HO143 := n5_; have HO155 := n6_; have BK116 := n7_; have BK114 := n8_; have BK120 := n9_; have HB := n10_; clear n0_ n1_ n2_ n3_ n4_ n5_ n6_ n7_ n8_ n9_ n10_; (try clear hb); (try clear hb2); (try clear hk); (try clear hi); (try clear ho0)))
  (try simp only [Act.put, List.setIfInBounds_toArray, List.set_cons_zero, List.set_cons_succ])
  go_cut [73] (fun v73 wc => ∃ (kq : Nat) (x73_9 : Bool), v73 = .bool x73_9 ∧ Qz (ZlFnTails.j0 kq t132 t122 x73_9 t115 t118 t117 t139 t119 = some true) ∧ Qz (kq ≤ k) ∧ Qz (Kd.R k48 48 wc w.heap.size (fun k_ => some k_ ≠ ((.slice Ao32 t119.length co32) : Value).ownBlock) v146 t122) ∧ Qz (Kd.R (Kd.int .u8) 5 wc w.heap.size (fun k_ => some k_ ≠ ((.slice Ao15 t118.length co15) : Value).ownBlock ∧ some k_ ≠ ((.slice Ao22 t126.length co22) : Value).ownBlock ∧ some k_ ≠ ((.slice Ao23 t125.length co23) : Value).ownBlock) (.slice Ao13 t115.length co13) t115) ∧ Qz (Kd.R (Kd.int .u8) 5 wc w.heap.size (fun k_ => some k_ ≠ ((.slice Ao13 t115.length co13) : Value).ownBlock ∧ some k_ ≠ ((.slice Ao22 t126.length co22) : Value).ownBlock ∧ some k_ ≠ ((.slice Ao23 t125.length co23) : Value).ownBlock) (.slice Ao15 t118.length co15) t118) ∧ Qz (Kd.R (Kd.int .u8) 5 wc w.heap.size (fun k_ => some k_ ≠ ((.slice Ao13 t115.length co13) : Value).ownBlock ∧ some k_ ≠ ((.slice Ao15 t118.length co15) : Value).ownBlock ∧ some k_ ≠ ((.slice Ao23 t125.length co23) : Value).ownBlock) (.slice Ao22 t126.length co22) t126) ∧ Qz (Kd.R (Kd.int .u8) 5 wc w.heap.size (fun k_ => some k_ ≠ ((.slice Ao13 t115.length co13) : Value).ownBlock ∧ some k_ ≠ ((.slice Ao15 t118.length co15) : Value).ownBlock ∧ some k_ ≠ ((.slice Ao22 t126.length co22) : Value).ownBlock) (.slice Ao23 t125.length co23) t125) ∧ Qz (Kd.R k48 48 wc w.heap.size (fun k_ => some k_ ≠ (v146 : Value).ownBlock) (.slice Ao32 t119.length co32) t119) ∧ Qz (wc.heap[gb116]? = some (.cells #[(.slice Ao13 t115.length co13), (.slice Ao15 t118.length co15)] 27 (0, 0))) ∧ Qz (wc.heap[gb114]? = some (.cells #[.int .i64 t121, .int .i64 t127, (.slice Ao22 t126.length co22), (.slice Ao23 t125.length co23)] 59 (0, 0))) ∧ Qz (wc.heap[gb120]? = some (.cells #[.int .i64 t117, .int .i64 t139, (.slice Ao32 t119.length co32)] 51 (0, 0))) ∧ Qz (Below w.heap.size w wc))
  case first =>
   have H := HC10.out
   clear HC10
   by_cases c35 : t117 = 0
   ·rw [if_pos c35] at H
    have c35b0 : (t117 == 0) = true := beq_iff_eq.mpr c35
    have c35b1 : (t117 != 0) = false := bne_eq_false_iff_eq.mpr c35
    clear c35
    (first | rw [c35b0] | (simp only [Qar, Qas]; rw [c35b0]) | skip)
    by_cases c36 : (t119.length : Int) = t127
    ·rw [if_pos c36] at H
     have c36b0 : ((t119.length : Int) == t127) = true := beq_iff_eq.mpr c36
     have c36b1 : ((t119.length : Int) != t127) = false := bne_eq_false_iff_eq.mpr c36
     clear c36
     by_cases c37 : (t119.length : Int) < (t144.length : Int)
     ·rw [if_pos c37] at H
      have c37b0 : decide ((t119.length : Int) < (t144.length : Int)) = true := decide_eq_true c37
      have c37b1 : decide (t119.length < t144.length) = true := decide_eq_true (Int.ofNat_lt.mp c37)
      clear c37
      exact absurd H (by cases k <;> simp [ZlFnTails.j0])
     rw [if_neg c37] at H
     have c37b0 : decide ((t119.length : Int) < (t144.length : Int)) = false := decide_eq_false c37
     have c37b1 : decide (t119.length < t144.length) = false := decide_eq_false (fun h => c37 (Int.ofNat_lt.mpr h))
     clear c37
     by_cases c44 : (t119.length : Int) > (t122.length : Int)
     ·rw [if_pos c44] at H
      have c44b0 : decide ((t122.length : Int) < (t119.length : Int)) = true := decide_eq_true c44
      have c44b1 : decide (t122.length < t119.length) = true := decide_eq_true (Int.ofNat_lt.mp c44)
      clear c44
      exact absurd H (by cases k <;> simp [ZlFnTails.j0])
     rw [if_neg c44] at H
     have c44b0 : decide ((t122.length : Int) < (t119.length : Int)) = false := decide_eq_false c44
     have c44b1 : decide (t122.length < t119.length) = false := decide_eq_false (fun h => c44 (Int.ofNat_lt.mpr h))
     clear c44
     have H' := Qz.mk H
     clear H
     have hnb52 := NB1138_1110.out
     have hnc52 := NB1110_1138.out
     have hnb53 := NB1138_1119.out
     have hnc53 := NB1119_1138.out
     obtain ⟨z54_0, z54_1, z54_2, j54_0, j54_1, j54_2⟩ := Lv.blks3 BK120.out
     have hnb55 := NB1119_1110.out
     have hnc55 := NB1110_1119.out
     obtain ⟨z56_0, z56_1, z56_2, z56_3, j56_0, j56_1, j56_2, j56_3⟩ := Lv.blks4 BK114.out
     obtain ⟨Ao57, co57, eo57⟩ := Kd.R_slice HO155.out
     subst eo57
     obtain ⟨Ao58, co58, eo58⟩ := Kd.R_slice HO141.out
     subst eo58
     go_wp2
     go_meet
     case rel => exact ⟨_, (((t125.length : Int) != 0)), zs, H', ⟨by first | omega | exact Nat.le_refl _⟩, ⟨by refine zR ?_; exact Kd.Qw HO141.out (fun _ hk => hk.1.2)⟩, ⟨by refine zR ?_; exact Kd.Qw HO123.out (fun _ hk => ⟨hk.1.1, ⟨hk.1.2, hk.2⟩⟩)⟩, ⟨by refine zR ?_; exact Kd.Qw HO124.out (fun _ hk => ⟨hk.1.1, ⟨hk.1.2, hk.2⟩⟩)⟩, ⟨by refine zR ?_; exact Kd.Qw HO135.out (fun _ hk => ⟨hk.1.2, ⟨hk.2, hk.1.1⟩⟩)⟩, ⟨by refine zR ?_; exact Kd.Qw HO136.out (fun _ hk => ⟨hk.1.2, ⟨hk.2, hk.1.1⟩⟩)⟩, ⟨by refine zR ?_; exact Kd.Qw HO143.out (fun _ hk => hk.1.2)⟩, ⟨zq BK116⟩, ⟨zq BK114⟩, ⟨zq BK120⟩, ⟨zb⟩⟩
    rw [if_neg c36] at H
    have c36b0 : ((t119.length : Int) == t127) = false := beq_eq_false_iff_ne.mpr c36
    have c36b1 : ((t119.length : Int) != t127) = true := bne_iff_ne.mpr c36
    exact absurd H (by cases k <;> simp [ZlFnTails.j0])
   rw [if_neg c35] at H
   have c35b0 : (t117 == 0) = false := beq_eq_false_iff_ne.mpr c35
   have c35b1 : (t117 != 0) = true := bne_iff_ne.mpr c35
   (first | rw [c35b0] | (simp only [Qar, Qas]; rw [c35b0]) | skip)
   exact absurd H (by cases k <;> simp [ZlFnTails.j0])
  case rest =>
   clear HC10
   try clear c2
   try clear p2
   try clear c3
   try clear c4
   try clear c5
   try clear c6
   try clear c6b0
   try clear c6b1
   try clear c9
   try clear c20
   try clear c25
   try clear c29
   try clear c30
   try clear c35
   try clear c35b0
   try clear c35b1
   try clear c36
   try clear c36b0
   try clear c36b1
   try clear c37
   try clear c37b0
   try clear c37b1
   try clear c38
   try clear c39
   try clear c41
   try clear c43
   try clear c44
   try clear c44b0
   try clear c44b1
   try clear c45
   try clear c46
   try clear c48
   try clear c52
   try clear c53
   try clear c55
   try clear c59
   try clear c60
   try clear c62
   try clear c64
   try clear c65
   try clear z14_0 z14_1
   try clear z17_0 z17_1
   try clear z21_0 z21_1 z21_2 z21_3
   try clear z24_0 z24_1
   try clear z26_0 z26_1 z26_2 z26_3
   try clear z31_0 z31_1 z31_2
   try clear z33_0 z33_1
   try clear z40_0 z40_1 z40_2
   try clear z42_0 z42_1 z42_2 z42_3
   try clear z47_0 z47_1 z47_2
   try clear z49_0 z49_1 z49_2 z49_3
   try clear z54_0 z54_1 z54_2
   try clear z56_0 z56_1 z56_2 z56_3
   try clear z61_0 z61_1 z61_2
   try clear z63_0 z63_1 z63_2 z63_3
   try clear z66_0 z66_1 z66_2
   try clear j14_0 j14_1
   try clear j17_0 j17_1
   try clear j21_0 j21_1 j21_2 j21_3
   try clear j24_0 j24_1
   try clear j26_0 j26_1 j26_2 j26_3
   try clear j31_0 j31_1 j31_2
   try clear j33_0 j33_1
   try clear j40_0 j40_1 j40_2
   try clear j42_0 j42_1 j42_2 j42_3
   try clear j47_0 j47_1 j47_2
   try clear j49_0 j49_1 j49_2 j49_3
   try clear j54_0 j54_1 j54_2
   try clear j56_0 j56_1 j56_2 j56_3
   try clear j61_0 j61_1 j61_2
   try clear j63_0 j63_1 j63_2 j63_3
   try clear j66_0 j66_1 j66_2
   obtain ⟨kq, x73_9, rfl, HA, HJ9, HO_6, HO_128, HO_129, HO_137, HO_138, HO_133, BK116, BK114, BK120, HB⟩ := hcut
   cases kq with
   | zero => exact absurd HA.out (by simp [ZlFnTails.j0])
   | succ kj9 =>
    have H := HA.out
    clear HA
    simp only [ZlFnTails.j0] at H
    by_cases c67 : x73_9 = true
    ·subst c67
     have H1 : (some false) = some true := by rw [if_pos rfl] at H; first | done | exact H
     clear H
     have H := H1
     clear H1
     exact absurd H (by simp)
    replace c67 := Bool.eq_false_iff.mpr c67
    subst c67
    have H1 : (ZlFnTails.l0 kj9 t132 t122 0 t115 t118 t117 t139 t119) = some true := by rw [if_neg (show ¬ (false = true) by decide)] at H; first | done | exact H
    clear H
    have H := H1
    clear H1
    have H' := Qz.mk H
    clear H
    go_wp2
    go_loopg [9] kj9 (fun kq v9 w' => ∃ (x9_2 : Int), v9 = .int .i64 x9_2 ∧ Qz (ZlFnTails.l0 kq t132 t122 x9_2 t115 t118 t117 t139 t119 = some true) ∧ Qz (kq ≤ kj9) ∧ Qz (Kd.R k48 48 w' w.heap.size (fun k_ => some k_ ≠ ((.slice Ao32 t119.length co32) : Value).ownBlock) v146 t122) ∧ Qz (Kd.R (Kd.int .u8) 5 w' w.heap.size (fun k_ => some k_ ≠ ((.slice Ao15 t118.length co15) : Value).ownBlock ∧ some k_ ≠ ((.slice Ao22 t126.length co22) : Value).ownBlock ∧ some k_ ≠ ((.slice Ao23 t125.length co23) : Value).ownBlock) (.slice Ao13 t115.length co13) t115) ∧ Qz (Kd.R (Kd.int .u8) 5 w' w.heap.size (fun k_ => some k_ ≠ ((.slice Ao13 t115.length co13) : Value).ownBlock ∧ some k_ ≠ ((.slice Ao22 t126.length co22) : Value).ownBlock ∧ some k_ ≠ ((.slice Ao23 t125.length co23) : Value).ownBlock) (.slice Ao15 t118.length co15) t118) ∧ Qz (Kd.R (Kd.int .u8) 5 w' w.heap.size (fun k_ => some k_ ≠ ((.slice Ao13 t115.length co13) : Value).ownBlock ∧ some k_ ≠ ((.slice Ao15 t118.length co15) : Value).ownBlock ∧ some k_ ≠ ((.slice Ao23 t125.length co23) : Value).ownBlock) (.slice Ao22 t126.length co22) t126) ∧ Qz (Kd.R (Kd.int .u8) 5 w' w.heap.size (fun k_ => some k_ ≠ ((.slice Ao13 t115.length co13) : Value).ownBlock ∧ some k_ ≠ ((.slice Ao15 t118.length co15) : Value).ownBlock ∧ some k_ ≠ ((.slice Ao22 t126.length co22) : Value).ownBlock) (.slice Ao23 t125.length co23) t125) ∧ Qz (Kd.R k48 48 w' w.heap.size (fun k_ => some k_ ≠ (v146 : Value).ownBlock) (.slice Ao32 t119.length co32) t119) ∧ Qz (w'.heap[gb116]? = some (.cells #[(.slice Ao13 t115.length co13), (.slice Ao15 t118.length co15)] 27 (0, 0))) ∧ Qz (w'.heap[gb114]? = some (.cells #[.int .i64 t121, .int .i64 t127, (.slice Ao22 t126.length co22), (.slice Ao23 t125.length co23)] 59 (0, 0))) ∧ Qz (w'.heap[gb120]? = some (.cells #[.int .i64 t117, .int .i64 t139, (.slice Ao32 t119.length co32)] 51 (0, 0))) ∧ Qz (Below w.heap.size w w'))
    case atStart => exact ⟨(0), zs, H', ⟨Nat.le_refl _⟩, ⟨zr HO_6⟩, ⟨zr HO_128⟩, ⟨zr HO_129⟩, ⟨zr HO_137⟩, ⟨zr HO_138⟩, ⟨zr HO_133⟩, ⟨zq BK116⟩, ⟨zq BK114⟩, ⟨zq BK120⟩, ⟨zb⟩⟩
    case round =>
     clear H'
     try clear c2
     try clear p2
     try clear c3
     try clear c4
     try clear c5
     try clear c6
     try clear c6b0
     try clear c6b1
     try clear c9
     try clear c20
     try clear c25
     try clear c29
     try clear c30
     try clear c35
     try clear c35b0
     try clear c35b1
     try clear c36
     try clear c36b0
     try clear c36b1
     try clear c37
     try clear c37b0
     try clear c37b1
     try clear c38
     try clear c39
     try clear c41
     try clear c43
     try clear c44
     try clear c44b0
     try clear c44b1
     try clear c45
     try clear c46
     try clear c48
     try clear c52
     try clear c53
     try clear c55
     try clear c59
     try clear c60
     try clear c62
     try clear c64
     try clear c65
     try clear c67
     try clear z14_0 z14_1
     try clear z17_0 z17_1
     try clear z21_0 z21_1 z21_2 z21_3
     try clear z24_0 z24_1
     try clear z26_0 z26_1 z26_2 z26_3
     try clear z31_0 z31_1 z31_2
     try clear z33_0 z33_1
     try clear z40_0 z40_1 z40_2
     try clear z42_0 z42_1 z42_2 z42_3
     try clear z47_0 z47_1 z47_2
     try clear z49_0 z49_1 z49_2 z49_3
     try clear z54_0 z54_1 z54_2
     try clear z56_0 z56_1 z56_2 z56_3
     try clear z61_0 z61_1 z61_2
     try clear z63_0 z63_1 z63_2 z63_3
     try clear z66_0 z66_1 z66_2
     try clear j14_0 j14_1
     try clear j17_0 j17_1
     try clear j21_0 j21_1 j21_2 j21_3
     try clear j24_0 j24_1
     try clear j26_0 j26_1 j26_2 j26_3
     try clear j31_0 j31_1 j31_2
     try clear j33_0 j33_1
     try clear j40_0 j40_1 j40_2
     try clear j42_0 j42_1 j42_2 j42_3
     try clear j47_0 j47_1 j47_2
     try clear j49_0 j49_1 j49_2 j49_3
     try clear j54_0 j54_1 j54_2
     try clear j56_0 j56_1 j56_2 j56_3
     try clear j61_0 j61_1 j61_2
     try clear j63_0 j63_1 j63_2 j63_3
     try clear j66_0 j66_1 j66_2
     try clear p2
     obtain ⟨x9_2, rfl, HA, HK2, HO_6, HO_128, HO_129, HO_137, HO_138, HO_133, BK116, BK114, BK120, HB⟩ := hrel
     cases gk with
     | zero => exact absurd HA.out (by simp [ZlFnTails.l0])
     | succ k2 =>
      have H := HA.out
      clear HA
      simp only [ZlFnTails.l0] at H
      by_cases c68 : x9_2 < (t119.length : Int)
      ·rw [if_pos c68] at H
       have c68b0 : decide (x9_2 < (t119.length : Int)) = true := decide_eq_true c68
       clear c68
       by_cases c69 : 0 ≤ x9_2
       ·rw [if_pos c69] at H
        have c69b0 : decide (0 ≤ x9_2) = true := decide_eq_true c69
        clear c69
        by_cases c70 : x9_2 < (t122.length : Int)
        ·rw [if_pos c70] at H
         have c70b0 : decide (x9_2 < (t122.length : Int)) = true := decide_eq_true c70
         clear c70
         by_cases c71 : (!(((rd_T48 t119 x9_2).f0) == ((rd_T48 t122 x9_2).f0)) || (!(((rd_T48 t119 x9_2).f1) == ((rd_T48 t122 x9_2).f1)) || (!(((rd_T48 t119 x9_2).f2) == ((rd_T48 t122 x9_2).f2)) || (!(((rd_T48 t119 x9_2).f3) == ((rd_T48 t122 x9_2).f3)) || (!(((rd_T48 t119 x9_2).f4) == ((rd_T48 t122 x9_2).f4)) || (!(((rd_T48 t119 x9_2).f5) == ((rd_T48 t122 x9_2).f5)) || (!(((rd_T48 t119 x9_2).f6) == ((rd_T48 t122 x9_2).f6)) || (!(((rd_T48 t119 x9_2).f7) == ((rd_T48 t122 x9_2).f7)))))))))) = true
         ·rw [if_pos c71] at H
          have c71b0 : (!(((rd_T48 t119 x9_2).f0) == ((rd_T48 t122 x9_2).f0)) || (!(((rd_T48 t119 x9_2).f1) == ((rd_T48 t122 x9_2).f1)) || (!(((rd_T48 t119 x9_2).f2) == ((rd_T48 t122 x9_2).f2)) || (!(((rd_T48 t119 x9_2).f3) == ((rd_T48 t122 x9_2).f3)) || (!(((rd_T48 t119 x9_2).f4) == ((rd_T48 t122 x9_2).f4)) || (!(((rd_T48 t119 x9_2).f5) == ((rd_T48 t122 x9_2).f5)) || (!(((rd_T48 t119 x9_2).f6) == ((rd_T48 t122 x9_2).f6)) || (!(((rd_T48 t119 x9_2).f7) == ((rd_T48 t122 x9_2).f7)))))))))) = true := c71
          clear c71
          exact absurd H (by simp)
         rw [if_neg c71] at H
         have c71b0 : (!(((rd_T48 t119 x9_2).f0) == ((rd_T48 t122 x9_2).f0)) || (!(((rd_T48 t119 x9_2).f1) == ((rd_T48 t122 x9_2).f1)) || (!(((rd_T48 t119 x9_2).f2) == ((rd_T48 t122 x9_2).f2)) || (!(((rd_T48 t119 x9_2).f3) == ((rd_T48 t122 x9_2).f3)) || (!(((rd_T48 t119 x9_2).f4) == ((rd_T48 t122 x9_2).f4)) || (!(((rd_T48 t119 x9_2).f5) == ((rd_T48 t122 x9_2).f5)) || (!(((rd_T48 t119 x9_2).f6) == ((rd_T48 t122 x9_2).f6)) || (!(((rd_T48 t119 x9_2).f7) == ((rd_T48 t122 x9_2).f7)))))))))) = false := by simpa using c71
         clear c71
         have H' := Qz.mk H
         clear H
         have hnb72 := NB1138_1110.out
         have hnc72 := NB1110_1138.out
         have hnb73 := NB1138_1119.out
         have hnc73 := NB1119_1138.out
         obtain ⟨z74_0, z74_1, z74_2, j74_0, j74_1, j74_2⟩ := Lv.blks3 BK120.out
         try go_wp2
         have n0_ := Qz.mk (Kd.Qo HO_6.out)
         have n1_ := Qz.mk (Kd.Qo HO_128.out)
         have n2_ := Qz.mk (Kd.Qo HO_129.out)
         have n3_ := Qz.mk (Kd.Qo HO_137.out)
         have n4_ := Qz.mk (Kd.Qo HO_138.out)
         have n5_ := Qz.mk (Kd.Qo HO_133.out)
         have n6_ := Qz.mk (Qg BK116.out)
         have n7_ := Qz.mk (Qg BK114.out)
         have n8_ := Qz.mk (Qg BK120.out)
         have n9_ := Qz.mk (Qb HB.out)
         clear HO_6
         clear HO_128
         clear HO_129
         clear HO_137
         clear HO_138
         clear HO_133
         clear BK116
         clear BK114
         clear BK120
         clear HB
         have HO_6 := n0_
         have HO_128 := n1_
         have HO_129 := n2_
         have HO_137 := n3_
         have HO_138 := n4_
         have HO_133 := n5_
         have BK116 := n6_
         have BK114 := n7_
         have BK120 := n8_
         have HB := n9_
         clear n0_ n1_ n2_ n3_ n4_ n5_ n6_ n7_ n8_ n9_
         have p1144 : 0 ≤ (x9_2 : Int) := of_decide_eq_true za
         have q130 : x9_2 < (t119.length : Int) := of_decide_eq_true za
         obtain ⟨ad130, e1144, hx130_0, hx130_1, hx130_2, hx130_3, hx130_4, hx130_5, hx130_6, hx130_7⟩ := at_T48 (Kd.Qaj HO_133.out).2.2 x9_2 p1144 q130
         cases e1144
         replace p1144 := eq_true p1144
         replace q130 := eq_true q130
         obtain ⟨Ao76, co76, eo76⟩ := Kd.R_slice HO_6.out
         (first | subst eo76 | (injection eo76 with f1_ f2_ f3_; have f4_ := f1_.symm; have f5_ := f3_.symm; clear f1_ f2_ f3_; subst f4_; subst f5_))
         have p1145 : 0 ≤ (x9_2 : Int) := of_decide_eq_true za
         have q131 : x9_2 < (t122.length : Int) := of_decide_eq_true za
         obtain ⟨ad131, e1145, hx131_0, hx131_1, hx131_2, hx131_3, hx131_4, hx131_5, hx131_6, hx131_7⟩ := at_T48 (Kd.Qaj HO_6.out).2.2 x9_2 p1145 q131
         cases e1145
         replace p1145 := eq_true p1145
         replace q131 := eq_true q131
         refine start_ (n := 10) (S := fun w' => w'.cell? ⟨gb120, 0, none⟩ = some (.int .i64 t117) ∧ w'.cell? ⟨gb120, 1, none⟩ = some (.int .i64 t139) ∧ w'.cell? ⟨gb120, 2, none⟩ = some (.slice (some ad130) t119.length co32) ∧ w'.cell? (ad130.add ((x9_2).toNat * 8)) = some (.int .i64 ((rd_T48 t119 x9_2).f0)) ∧ w'.cell? ⟨(ad130.add ((x9_2).toNat * 8)).block, (ad130.add ((x9_2).toNat * 8)).off + 1, none⟩ = some (.int .i64 ((rd_T48 t119 x9_2).f1)) ∧ w'.cell? ⟨(ad130.add ((x9_2).toNat * 8)).block, (ad130.add ((x9_2).toNat * 8)).off + 2, none⟩ = some (.int .i64 ((rd_T48 t119 x9_2).f2)) ∧ w'.cell? ⟨(ad130.add ((x9_2).toNat * 8)).block, (ad130.add ((x9_2).toNat * 8)).off + 3, none⟩ = some (.bool ((rd_T48 t119 x9_2).f3)) ∧ w'.cell? ⟨(ad130.add ((x9_2).toNat * 8)).block, (ad130.add ((x9_2).toNat * 8)).off + 4, none⟩ = some (.int .i64 ((rd_T48 t119 x9_2).f4)) ∧ w'.cell? ⟨(ad130.add ((x9_2).toNat * 8)).block, (ad130.add ((x9_2).toNat * 8)).off + 5, none⟩ = some (.bool ((rd_T48 t119 x9_2).f5)) ∧ w'.cell? ⟨(ad130.add ((x9_2).toNat * 8)).block, (ad130.add ((x9_2).toNat * 8)).off + 6, none⟩ = some (.int .i64 ((rd_T48 t119 x9_2).f6)) ∧ w'.cell? ⟨(ad130.add ((x9_2).toNat * 8)).block, (ad130.add ((x9_2).toNat * 8)).off + 7, none⟩ = some (.int .i64 ((rd_T48 t119 x9_2).f7)) ∧ w'.cell? (ad131.add ((x9_2).toNat * 8)) = some (.int .i64 ((rd_T48 t122 x9_2).f0)) ∧ w'.cell? ⟨(ad131.add ((x9_2).toNat * 8)).block, (ad131.add ((x9_2).toNat * 8)).off + 1, none⟩ = some (.int .i64 ((rd_T48 t122 x9_2).f1)) ∧ w'.cell? ⟨(ad131.add ((x9_2).toNat * 8)).block, (ad131.add ((x9_2).toNat * 8)).off + 2, none⟩ = some (.int .i64 ((rd_T48 t122 x9_2).f2)) ∧ w'.cell? ⟨(ad131.add ((x9_2).toNat * 8)).block, (ad131.add ((x9_2).toNat * 8)).off + 3, none⟩ = some (.bool ((rd_T48 t122 x9_2).f3)) ∧ w'.cell? ⟨(ad131.add ((x9_2).toNat * 8)).block, (ad131.add ((x9_2).toNat * 8)).off + 4, none⟩ = some (.int .i64 ((rd_T48 t122 x9_2).f4)) ∧ w'.cell? ⟨(ad131.add ((x9_2).toNat * 8)).block, (ad131.add ((x9_2).toNat * 8)).off + 5, none⟩ = some (.bool ((rd_T48 t122 x9_2).f5)) ∧ w'.cell? ⟨(ad131.add ((x9_2).toNat * 8)).block, (ad131.add ((x9_2).toNat * 8)).off + 6, none⟩ = some (.int .i64 ((rd_T48 t122 x9_2).f6)) ∧ w'.cell? ⟨(ad131.add ((x9_2).toNat * 8)).block, (ad131.add ((x9_2).toNat * 8)).off + 7, none⟩ = some (.int .i64 ((rd_T48 t122 x9_2).f7))) (ds := []) #[Z, Z, Z, Z, Z, Z, Z, Z, Z, Z] (by kernel_rfl) rfl rfl ⟨(Qh BK120.out 0).trans rfl, (Qh BK120.out 1).trans rfl, (Qh BK120.out 2).trans rfl, hx130_0, hx130_1, hx130_2, hx130_3, hx130_4, hx130_5, hx130_6, hx130_7, hx131_0, hx131_1, hx131_2, hx131_3, hx131_4, hx131_5, hx131_6, hx131_7⟩ (fun hHeld => ?_); refine with_tabW ZlFnTails.tab15 ZlFnTails.bits15 (fun HT_ HW_ => ?_)
         generalize wr.drew = w75 at HO_6 HO_128 HO_129 HO_137 HO_138 HO_133 BK116 BK114 BK120 HB hx130_0 hx130_1 hx130_2 hx130_3 hx130_4 hx130_5 hx130_6 hx130_7 hx131_0 hx131_1 hx131_2 hx131_3 hx131_4 hx131_5 hx131_6 hx131_7 hHeld ⊢
         refine zp 0 81 ?_; refine zp 2 83 ?_; refine zp 5 86 ?_; refine zp 6 87 ?_; refine zp 7 88 ?_; refine zt 1 82 ?_; refine zp 3 84 ?_; refine zt 4 85 ?_; refine zt 8 89 ?_; refine zp 9 90 ?_
         refine done_ (done_of HT_.out (by kernel_rfl)) ?_
         try go_wp2
         go_roundg k2
         case measure => have := HJ9.out; have := HK2.out; omega
         case rel => exact ⟨(wrap64 (x9_2 + 1)), zs, H', ⟨by have := HJ9.out; have := HK2.out; omega⟩, ⟨zr HO_6⟩, ⟨zr HO_128⟩, ⟨zr HO_129⟩, ⟨zr HO_137⟩, ⟨zr HO_138⟩, ⟨zr HO_133⟩, ⟨zq BK116⟩, ⟨zq BK114⟩, ⟨zq BK120⟩, ⟨zb⟩⟩
        rw [if_neg c70] at H
        exact absurd H (by simp)
       rw [if_neg c69] at H
       exact absurd H (by simp)
      rw [if_neg c68] at H
      have c68b0 : decide (x9_2 < (t119.length : Int)) = false := decide_eq_false c68
      clear c68
      by_cases c77 : t132 < (t118.length : Int)
      ·rw [if_pos c77] at H
       have c77b0 : decide (t132 < (t118.length : Int)) = true := decide_eq_true c77
       clear c77
       replace H := Option.bind_eq_some_iff.mp H
       obtain ⟨⟨t156, t157, t149⟩, A780, H⟩ := H
       replace H : (some ((t122.length : Int) == (t149.length : Int))) = some true := H
       have A78 := Qz.mk A780
       clear A780
       have HT_ := Qz.mk (Option.some.inj H)
       have hnb79 := NB1138_1110.out
       have hnc79 := NB1110_1138.out
       have hnb80 := NB1138_1119.out
       have hnc80 := NB1119_1138.out
       obtain ⟨z81_0, z81_1, z81_2, j81_0, j81_1, j81_2⟩ := Lv.blks3 BK120.out
       have hnb82 := NB1110_1119.out
       have hnc82 := NB1119_1110.out
       obtain ⟨z83_0, z83_1, j83_0, j83_1⟩ := Lv.blks2 BK116.out
       obtain ⟨Ao84, co84, eo84⟩ := Kd.R_slice HO_6.out
       subst eo84
       go_wp2_with (first | (go_at_call 46; (with_reducible refine (ZsRecsOf.calls k2 _ _ t115 _ _ t118 t156 t157 t149 _ ?side1 ?side2 ?side3 ?side4 A78.out).mono ?_); (case side1 => exact zc (Kd.Qaj HO_128.out).2.2); (case side2 => exact (Kd.Qaj HO_128.out).2.1); (case side3 => exact zc (Kd.Qaj HO_129.out).2.2); (case side4 => exact (Kd.Qaj HO_129.out).2.1); rintro e w85 ⟨v167, rfl, ho0, hb⟩; have n0_ := Qz.mk (Kd.R_elder' (zr HO_6) (Kd.Qah ho0) hb); have n1_ := Qz.mk (Kd.Qy (zr HO_128) hb); have n2_ := Qz.mk (Kd.Qy (zr HO_129) hb); have n3_ := Qz.mk (Kd.Qy (zr HO_137) hb); have n4_ := Qz.mk (Kd.Qy (zr HO_138) hb); have n5_ := Qz.mk (Kd.R_elder' (zr HO_133) (Kd.Qah ho0) hb); have n6_ := Qz.mk (Kd.Qan (Kd.Qal (Kd.Qal ho0 (Kd.R_lt (zr HO_6))) (Kd.R_lt (zr HO_133))) (Qp zb)); have n7_ := Qz.mk (Qi (g := gb116) (o := .cells #[.slice Ao13 t115.length co13, .slice Ao15 t118.length co15] 27 (0, 0)) zk hb); have n8_ := Qz.mk (Qi (g := gb114) (o := .cells #[.int .i64 t121, .int .i64 t127, .slice Ao22 t126.length co22, .slice Ao23 t125.length co23] 59 (0, 0)) zk hb); have n9_ := Qz.mk (Qi (g := gb120) (o := .cells #[.int .i64 t117, .int .i64 t139, .slice Ao32 t119.length co32] 51 (0, 0)) zk hb); have n10_ := Qz.mk (Qq zb hb); clear HO_6; clear HO_128; clear HO_129; clear HO_137; clear HO_138; clear HO_133; clear BK116; clear BK114; clear BK120; clear HB; have HO_6 := n0_; have HO_128 := n1_; have HO_129 := n2_; have HO_137 := n3_; have HO_138 := n4_; have HO_133 := n5_; have HO158 := n6_; have BK116 := n7_; have BK114 := n8_; have BK120 := n9_; have HB := n10_; clear n0_ n1_ n2_ n3_ n4_ n5_ n6_ n7_ n8_ n9_ n10_; (try clear hb); (try clear hb2); (try clear hk); (try clear hi); (try clear ho0); obtain ⟨Ao86, co86, eo86⟩ := Kd.R_slice HO158.out; subst eo86))
       go_ret
       exact ⟨by first | rfl | (simp [Qv, Qu] <;> rfl) | (simp [*, Qv, Qu] <;> rfl) | (exact congrArg (fun b_ => Ending.returned (Value.bool b_)) HT_.out) | (have HT2_ := HT_.out; simp_all), zb⟩
      rw [if_neg c77] at H
      have c77b0 : decide (t132 < (t118.length : Int)) = false := decide_eq_false c77
      clear c77
      by_cases c87 : (t119.length : Int) = (t122.length : Int)
      ·rw [if_pos c87] at H
       have c87b0 : ((t119.length : Int) == (t122.length : Int)) = true := beq_iff_eq.mpr c87
       have c87b1 : ((t119.length : Int) != (t122.length : Int)) = false := bne_eq_false_iff_eq.mpr c87
       have c87b2 : (t119.length == t122.length) = true := by first | simpa using c87 | (simp at c87 ⊢; omega)
       clear c87
       replace H := Option.bind_eq_some_iff.mp H
       obtain ⟨⟨t159, t160, t150⟩, A880, H⟩ := H
       replace H : (some ((t122.length : Int) == (t150.length : Int))) = some true := H
       have A88 := Qz.mk A880
       clear A880
       have HT_ := Qz.mk (Option.some.inj H)
       have hnb89 := NB1138_1110.out
       have hnc89 := NB1110_1138.out
       have hnb90 := NB1138_1119.out
       have hnc90 := NB1119_1138.out
       obtain ⟨z91_0, z91_1, z91_2, j91_0, j91_1, j91_2⟩ := Lv.blks3 BK120.out
       have hnb92 := NB1110_1119.out
       have hnc92 := NB1119_1110.out
       obtain ⟨z93_0, z93_1, j93_0, j93_1⟩ := Lv.blks2 BK116.out
       obtain ⟨Ao94, co94, eo94⟩ := Kd.R_slice HO_6.out
       subst eo94
       go_wp2_with (first | (go_at_call 46; (with_reducible refine (ZsRecsOf.calls k2 _ _ t115 _ _ t118 t159 t160 t150 _ ?side1 ?side2 ?side3 ?side4 A88.out).mono ?_); (case side1 => exact zc (Kd.Qaj HO_128.out).2.2); (case side2 => exact (Kd.Qaj HO_128.out).2.1); (case side3 => exact zc (Kd.Qaj HO_129.out).2.2); (case side4 => exact (Kd.Qaj HO_129.out).2.1); rintro e w95 ⟨v168, rfl, ho0, hb⟩; have n0_ := Qz.mk (Kd.R_elder' (zr HO_6) (Kd.Qah ho0) hb); have n1_ := Qz.mk (Kd.Qy (zr HO_128) hb); have n2_ := Qz.mk (Kd.Qy (zr HO_129) hb); have n3_ := Qz.mk (Kd.Qy (zr HO_137) hb); have n4_ := Qz.mk (Kd.Qy (zr HO_138) hb); have n5_ := Qz.mk (Kd.R_elder' (zr HO_133) (Kd.Qah ho0) hb); have n6_ := Qz.mk (Kd.Qan (Kd.Qal (Kd.Qal ho0 (Kd.R_lt (zr HO_6))) (Kd.R_lt (zr HO_133))) (Qp zb)); have n7_ := Qz.mk (Qi (g := gb116) (o := .cells #[.slice Ao13 t115.length co13, .slice Ao15 t118.length co15] 27 (0, 0)) zk hb); have n8_ := Qz.mk (Qi (g := gb114) (o := .cells #[.int .i64 t121, .int .i64 t127, .slice Ao22 t126.length co22, .slice Ao23 t125.length co23] 59 (0, 0)) zk hb); have n9_ := Qz.mk (Qi (g := gb120) (o := .cells #[.int .i64 t117, .int .i64 t139, .slice Ao32 t119.length co32] 51 (0, 0)) zk hb); have n10_ := Qz.mk (Qq zb hb); clear HO_6; clear HO_128; clear HO_129; clear HO_137; clear HO_138; clear HO_133; clear BK116; clear BK114; clear BK120; clear HB; have HO_6 := n0_; have HO_128 := n1_; have HO_129 := n2_; have HO_137 := n3_; have HO_138 := n4_; have HO_133 := n5_; have HO161 := n6_; have BK116 := n7_; have BK114 := n8_; have BK120 := n9_; have HB := n10_; clear n0_ n1_ n2_ n3_ n4_ n5_ n6_ n7_ n8_ n9_ n10_; (try clear hb); (try clear hb2); (try clear hk); (try clear hi); (try clear ho0); obtain ⟨Ao96, co96, eo96⟩ := Kd.R_slice HO161.out; subst eo96))
       go_ret
       exact ⟨by first | rfl | (simp [Qv, Qu] <;> rfl) | (simp [*, Qv, Qu] <;> rfl) | (exact congrArg (fun b_ => Ending.returned (Value.bool b_)) HT_.out) | (have HT2_ := HT_.out; simp_all), zb⟩
      rw [if_neg c87] at H
      have c87b0 : ((t119.length : Int) == (t122.length : Int)) = false := beq_eq_false_iff_ne.mpr c87
      have c87b1 : ((t119.length : Int) != (t122.length : Int)) = true := bne_iff_ne.mpr c87
      have c87b2 : (t119.length == t122.length) = false := by first | simpa using c87 | (simp at c87 ⊢; omega)
      exact absurd H (by simp)
 rw [if_neg c6] at H
 have c6b0 : (t121 == 0) = false := beq_eq_false_iff_ne.mpr c6
 have c6b1 : (t121 != 0) = true := bne_iff_ne.mpr c6
 replace H := Option.bind_eq_some_iff.mp H
 obtain ⟨⟨t142, t162, t163, t164⟩, A970, H⟩ := H
 replace H : (some (t142 == t121)) = some true := H
 have A97 := Qz.mk A970
 clear A970
 have HT_ := Qz.mk (Option.some.inj H)
 go_enter Try.func9, Try.ntmps9
 try go_wp2_with (first | ((with_reducible refine gate_callee (f := 25) rfl ?_); refine Qat (some 11) rfl rfl Try.func25 (by kernel_rfl) rfl #[.slice A0 l0.length c0] rfl zm ?_; (with_reducible refine (ZllwBig.calls _ _ l0 false _ ?side1 ?side2 A2.out).mono ?_); (case side1 => exact zc HR0.out); (case side2 => exact HC0.out); rintro e w' ⟨rfl, ⟨nd, rfl⟩⟩; refine ⟨_, rfl, ?_⟩) | ((with_reducible refine gate_callee (f := 44) rfl ?_); refine Qat (some 14) rfl rfl Try.func44 (by kernel_rfl) rfl #[.slice A0 l0.length c0] rfl zm ?_; (with_reducible refine (ZsDrawCrashLog.calls k _ _ l0 t115 t118 t132 _ ?side1 ?side2 A4.out).mono ?_); (case side1 => exact zc HR0.out); (case side2 => exact HC0.out); rintro e w98 ⟨v153, v154, rfl, ho0, ho1, hb⟩; refine ⟨_, rfl, ?_⟩; have n0_ := Qz.mk (Kd.Qan ho0 (Qp zb)); have n1_ := Qz.mk (Kd.Qan ho1 (Qp zb)); have n2_ := Qz.mk (Qq zb hb); clear HB; have HO123 := n0_; have HO124 := n1_; have HB := n2_; clear n0_ n1_ n2_; (try clear hb); (try clear hb2); (try clear hk); (try clear hi); (try clear ho0); (try clear ho1)) | ((with_reducible refine gate_dst (N := 3) rfl ?_); (try (refine gate_guard (by rfl) ?_; dsimp only)); refine box_event ?hg (N := 3) ?hd (cs := #[.slice none 0 0, .slice none 0 0]) (t := 27) ?hr ?_; (case hd => rfl); (case hg => rfl); (case hr => exact ys5); intro gb116 hg w99 hbox hb; have n0_ := Qz.mk (Kd.Qy (zr HO123) hb); have n1_ := Qz.mk (Kd.Qy (zr HO124) hb); have n2_ := Qz.mk (Qq zb hb); have n3_ := Qz.mk (hbox); have n4_ := Qz.mk ((zh hg : w.heap.size ≤ gb116)); have n5_ := n4_; clear HO123; clear HO124; clear HB; have HO123 := n0_; have HO124 := n1_; have HB := n2_; have BK116 := n3_; have GW116 := n4_; have GE116 := n5_; clear n0_ n1_ n2_ n3_ n4_ n5_; clear hb hbox hg; obtain ⟨Ao100, co100, eo100⟩ := Kd.R_slice HO123.out; subst eo100; obtain ⟨z101_0, z101_1, j101_0, j101_1⟩ := Lv.blks2 BK116.out; obtain ⟨Ao102, co102, eo102⟩ := Kd.R_slice HO124.out; subst eo102) | ((with_reducible refine gate_store (t := 27) (p := 3) rfl ?_); refine store_event (t := 27) (p := 3) (v := ?vo_w103) (w1 := ((w99.setCell ⟨gb116, 0, none⟩ (.slice Ao100 t115.length co100)).setCell ⟨gb116, 1, none⟩ (.slice Ao102 t118.length co102))) ?hg ?ho ?hn ?hr ?_; (case ho => rfl); (case hg => rfl); (case hn => rfl); (case hr => exact ys5); intro w103 hw; have n0_ : Qz (Kd.R (Kd.int .u8) 5 w103 w.heap.size (fun k_ => some k_ ≠ (.slice Ao102 t118.length co102 : Value).ownBlock) (.slice Ao100 t115.length co100) t115) := ⟨(by rw [hw]; exact (by refine zR ?_; exact Kd.Qw (Kd.Qx (p := ⟨gb116, 1, none⟩) (Kd.Qx (p := ⟨gb116, 0, none⟩) (Kd.Qai HO123.out BK116.out (by decide)) (fun _ hk => hk.2) (.slice Ao100 t115.length co100)) (fun _ hk => hk.2) (.slice Ao102 t118.length co102)) (fun _ hk => hk.1)))⟩; have n1_ : Qz (Kd.R (Kd.int .u8) 5 w103 w.heap.size (fun k_ => some k_ ≠ (.slice Ao100 t115.length co100 : Value).ownBlock) (.slice Ao102 t118.length co102) t118) := ⟨(by rw [hw]; exact (by refine zR ?_; exact Kd.Qw (Kd.Qx (p := ⟨gb116, 1, none⟩) (Kd.Qx (p := ⟨gb116, 0, none⟩) (Kd.Qai HO124.out BK116.out (by decide)) (fun _ hk => hk.2) (.slice Ao100 t115.length co100)) (fun _ hk => hk.2) (.slice Ao102 t118.length co102)) (fun _ hk => hk.1)))⟩; have n2_ : Qz (w103.heap[gb116]? = some (.cells #[.slice Ao100 t115.length co100, .slice Ao102 t118.length co102] 27 (0, 0))) := ⟨(by rw [hw]; exact (by refine zQ ?_; refine Qk (cs := #[.slice Ao100 t115.length co100, .slice none 0 0]) ?_ 1 _ rfl; refine zQ ?_; refine Qk (cs := #[.slice none 0 0, .slice none 0 0]) ?_ 0 _ rfl; refine zQ ?_; exact BK116.out))⟩; have n3_ : Qz (Below w.heap.size w w103) := ⟨(by rw [hw]; exact zb)⟩; clear hw; clear HO123; clear HO124; clear BK116; clear HB; have HO123 := n0_; have HO124 := n1_; have BK116 := n2_; have HB := n3_; clear n0_ n1_ n2_ n3_; obtain ⟨z104_0, z104_1, j104_0, j104_1⟩ := Lv.blks2 BK116.out) | ((with_reducible refine gate_callee (f := 43) rfl ?_); refine Qat (some 19) rfl rfl Try.func43 (by kernel_rfl) rfl #[.agg #[.slice Ao100 t115.length co100, .slice Ao102 t118.length co102], .int .i64 t132] rfl zm ?_; (with_reducible refine (ZiCrashLog.calls k (fun k_ => some k_ = (.slice Ao100 t115.length co100 : Value).ownBlock) _ _ t115 (fun k_ => some k_ = (.slice Ao102 t118.length co102 : Value).ownBlock) _ _ t118 t132 t121 t127 t126 t125 _ ?side1 ?side2 A5.out).mono ?_); (case side1 => exact Kd.R_V (Kd.R_tight rfl (Kd.Qai (HO123.out) BK116.out (by decide)))); (case side2 => exact Kd.R_V (Kd.R_tight rfl (Kd.Qai (HO124.out) BK116.out (by decide)))); rintro e w105 ⟨v147, v148, rfl, ho0, ho1, hb⟩; refine ⟨_, rfl, ?_⟩; have n0_ := Qz.mk (Kd.Qw (Kd.Qam (Kd.Qam (Kd.R_old (zr HO123) hb) (Kd.Qah ho0)) (Kd.Qah ho1)) (fun _ h_ => h_.1)); have n1_ := Qz.mk (Kd.Qw (Kd.Qam (Kd.Qam (Kd.R_old (zr HO124) hb) (Kd.Qah ho0)) (Kd.Qah ho1)) (fun _ h_ => h_.1)); have n2_ := Qz.mk (Kd.Qan (Kd.Qal (Kd.Qal (Kd.Qw (ok' := fun k_ => some k_ ≠ (v148 : Value).ownBlock) ho0 (fun _ hk_ => hk_.2)) (Kd.R_lt (zr HO123))) (Kd.R_lt (zr HO124))) (Qp zb)); have n3_ := Qz.mk (Kd.Qan (Kd.Qal (Kd.Qal (Kd.Qw (ok' := fun k_ => some k_ ≠ (v147 : Value).ownBlock) ho1 (fun _ hk_ => hk_.2)) (Kd.R_lt (zr HO123))) (Kd.R_lt (zr HO124))) (Qp zb)); have n4_ := Qz.mk (Qi (g := gb116) (o := .cells #[.slice Ao100 t115.length co100, .slice Ao102 t118.length co102] 27 (0, 0)) zk hb); have n5_ := Qz.mk (Qq zb hb); clear HO123; clear HO124; clear BK116; clear HB; have HO123 := n0_; have HO124 := n1_; have HO135 := n2_; have HO136 := n3_; have BK116 := n4_; have HB := n5_; clear n0_ n1_ n2_ n3_ n4_ n5_; (try clear hb); (try clear hb2); (try clear hk); (try clear hi); (try clear ho0); (try clear ho1)) | ((with_reducible refine gate_dst (N := 5) rfl ?_); (try (refine gate_guard (by rfl) ?_; dsimp only)); refine box_event ?hg (N := 5) ?hd (cs := #[.int .i64 0, .int .i64 0, .slice none 0 0, .slice none 0 0]) (t := 59) ?hr ?_; (case hd => rfl); (case hg => rfl); (case hr => exact ys5); intro gb114 hg w106 hbox hb; have n0_ := Qz.mk (Kd.Qy (zr HO123) hb); have n1_ := Qz.mk (Kd.Qy (zr HO124) hb); have n2_ := Qz.mk (Kd.Qy (zr HO135) hb); have n3_ := Qz.mk (Kd.Qy (zr HO136) hb); have n4_ := Qz.mk (Qi (g := gb116) (o := .cells #[.slice Ao100 t115.length co100, .slice Ao102 t118.length co102] 27 (0, 0)) zk hb); have n5_ := Qz.mk (Qq zb hb); have n6_ := Qz.mk (hbox); have n7_ := Qz.mk ((zh hg : w.heap.size ≤ gb114)); have n8_ := n7_; have n9_ := Qz.mk ((by rw [hg]; exact Nat.ne_of_lt (Ql (g := gb116) (o := .cells #[.slice Ao100 t115.length co100, .slice Ao102 t118.length co102] 27 (0, 0)) zk) : gb116 ≠ gb114)); have n10_ := Qz.mk ((by rw [hg]; exact Nat.ne_of_gt (Ql (g := gb116) (o := .cells #[.slice Ao100 t115.length co100, .slice Ao102 t118.length co102] 27 (0, 0)) zk) : gb114 ≠ gb116)); clear HO123; clear HO124; clear HO135; clear HO136; clear BK116; clear HB; have HO123 := n0_; have HO124 := n1_; have HO135 := n2_; have HO136 := n3_; have BK116 := n4_; have HB := n5_; have BK114 := n6_; have GW114 := n7_; have GE114 := n8_; have NB1110_1119 := n9_; have NB1119_1110 := n10_; clear n0_ n1_ n2_ n3_ n4_ n5_ n6_ n7_ n8_ n9_ n10_; clear hb hbox hg; have hnb107 := NB1119_1110.out; have hnc107 := NB1110_1119.out; obtain ⟨z108_0, z108_1, z108_2, z108_3, j108_0, j108_1, j108_2, j108_3⟩ := Lv.blks4 BK114.out; obtain ⟨Ao109, co109, eo109⟩ := Kd.R_slice HO135.out; subst eo109; obtain ⟨Ao110, co110, eo110⟩ := Kd.R_slice HO136.out; subst eo110))
 have n0_ : Qz (Kd.R (Kd.int .u8) 5 ((((w106.setCell ⟨gb114, 0, none⟩ (.int .i64 t121)).setCell ⟨gb114, 1, none⟩ (.int .i64 t127)).setCell ⟨gb114, 2, none⟩ (.slice Ao109 t126.length co109)).setCell ⟨gb114, 3, none⟩ (.slice Ao110 t125.length co110)) w.heap.size (fun k_ => some k_ ≠ (.slice Ao102 t118.length co102 : Value).ownBlock ∧ some k_ ≠ (.slice Ao109 t126.length co109 : Value).ownBlock ∧ some k_ ≠ (.slice Ao110 t125.length co110 : Value).ownBlock) (.slice Ao100 t115.length co100) t115) := ⟨by refine zR ?_; exact Kd.Qw (Kd.Qx (p := ⟨gb114, 3, none⟩) (Kd.Qx (p := ⟨gb114, 2, none⟩) (Kd.Qx (p := ⟨gb114, 1, none⟩) (Kd.Qx (p := ⟨gb114, 0, none⟩) (Kd.Qai HO123.out BK114.out (by decide)) (fun _ hk => hk.2) (.int .i64 t121)) (fun _ hk => hk.2) (.int .i64 t127)) (fun _ hk => hk.2) (.slice Ao109 t126.length co109)) (fun _ hk => hk.2) (.slice Ao110 t125.length co110)) (fun _ hk => ⟨hk.1.1.1, ⟨hk.1.1.2, hk.1.2⟩⟩)⟩
 have n1_ : Qz (Kd.R (Kd.int .u8) 5 ((((w106.setCell ⟨gb114, 0, none⟩ (.int .i64 t121)).setCell ⟨gb114, 1, none⟩ (.int .i64 t127)).setCell ⟨gb114, 2, none⟩ (.slice Ao109 t126.length co109)).setCell ⟨gb114, 3, none⟩ (.slice Ao110 t125.length co110)) w.heap.size (fun k_ => some k_ ≠ (.slice Ao100 t115.length co100 : Value).ownBlock ∧ some k_ ≠ (.slice Ao109 t126.length co109 : Value).ownBlock ∧ some k_ ≠ (.slice Ao110 t125.length co110 : Value).ownBlock) (.slice Ao102 t118.length co102) t118) := ⟨by refine zR ?_; exact Kd.Qw (Kd.Qx (p := ⟨gb114, 3, none⟩) (Kd.Qx (p := ⟨gb114, 2, none⟩) (Kd.Qx (p := ⟨gb114, 1, none⟩) (Kd.Qx (p := ⟨gb114, 0, none⟩) (Kd.Qai HO124.out BK114.out (by decide)) (fun _ hk => hk.2) (.int .i64 t121)) (fun _ hk => hk.2) (.int .i64 t127)) (fun _ hk => hk.2) (.slice Ao109 t126.length co109)) (fun _ hk => hk.2) (.slice Ao110 t125.length co110)) (fun _ hk => ⟨hk.1.1.1, ⟨hk.1.1.2, hk.1.2⟩⟩)⟩
 have n2_ : Qz (Kd.R (Kd.int .u8) 5 ((((w106.setCell ⟨gb114, 0, none⟩ (.int .i64 t121)).setCell ⟨gb114, 1, none⟩ (.int .i64 t127)).setCell ⟨gb114, 2, none⟩ (.slice Ao109 t126.length co109)).setCell ⟨gb114, 3, none⟩ (.slice Ao110 t125.length co110)) w.heap.size (fun k_ => some k_ ≠ (.slice Ao100 t115.length co100 : Value).ownBlock ∧ some k_ ≠ (.slice Ao102 t118.length co102 : Value).ownBlock ∧ some k_ ≠ (.slice Ao110 t125.length co110 : Value).ownBlock) (.slice Ao109 t126.length co109) t126) := ⟨by refine zR ?_; exact Kd.Qw (Kd.Qx (p := ⟨gb114, 3, none⟩) (Kd.Qx (p := ⟨gb114, 2, none⟩) (Kd.Qx (p := ⟨gb114, 1, none⟩) (Kd.Qx (p := ⟨gb114, 0, none⟩) (Kd.Qai HO135.out BK114.out (by decide)) (fun _ hk => hk.2) (.int .i64 t121)) (fun _ hk => hk.2) (.int .i64 t127)) (fun _ hk => hk.2) (.slice Ao109 t126.length co109)) (fun _ hk => hk.2) (.slice Ao110 t125.length co110)) (fun _ hk => ⟨hk.1.1.2, ⟨hk.1.2, hk.1.1.1⟩⟩)⟩
 have n3_ : Qz (Kd.R (Kd.int .u8) 5 ((((w106.setCell ⟨gb114, 0, none⟩ (.int .i64 t121)).setCell ⟨gb114, 1, none⟩ (.int .i64 t127)).setCell ⟨gb114, 2, none⟩ (.slice Ao109 t126.length co109)).setCell ⟨gb114, 3, none⟩ (.slice Ao110 t125.length co110)) w.heap.size (fun k_ => some k_ ≠ (.slice Ao100 t115.length co100 : Value).ownBlock ∧ some k_ ≠ (.slice Ao102 t118.length co102 : Value).ownBlock ∧ some k_ ≠ (.slice Ao109 t126.length co109 : Value).ownBlock) (.slice Ao110 t125.length co110) t125) := ⟨by refine zR ?_; exact Kd.Qw (Kd.Qx (p := ⟨gb114, 3, none⟩) (Kd.Qx (p := ⟨gb114, 2, none⟩) (Kd.Qx (p := ⟨gb114, 1, none⟩) (Kd.Qx (p := ⟨gb114, 0, none⟩) (Kd.Qai HO136.out BK114.out (by decide)) (fun _ hk => hk.2) (.int .i64 t121)) (fun _ hk => hk.2) (.int .i64 t127)) (fun _ hk => hk.2) (.slice Ao109 t126.length co109)) (fun _ hk => hk.2) (.slice Ao110 t125.length co110)) (fun _ hk => ⟨hk.1.1.2, ⟨hk.1.2, hk.1.1.1⟩⟩)⟩
 have n4_ : Qz (((((w106.setCell ⟨gb114, 0, none⟩ (.int .i64 t121)).setCell ⟨gb114, 1, none⟩ (.int .i64 t127)).setCell ⟨gb114, 2, none⟩ (.slice Ao109 t126.length co109)).setCell ⟨gb114, 3, none⟩ (.slice Ao110 t125.length co110)).heap[gb116]? = some (.cells #[.slice Ao100 t115.length co100, .slice Ao102 t118.length co102] 27 (0, 0))) := ⟨by refine zQ ?_; refine blk_far ?_ NB1110_1119.out _; refine zQ ?_; refine blk_far ?_ NB1110_1119.out _; refine zQ ?_; refine blk_far ?_ NB1110_1119.out _; refine zQ ?_; refine blk_far ?_ NB1110_1119.out _; refine zQ ?_; exact BK116.out⟩
 have n5_ : Qz (((((w106.setCell ⟨gb114, 0, none⟩ (.int .i64 t121)).setCell ⟨gb114, 1, none⟩ (.int .i64 t127)).setCell ⟨gb114, 2, none⟩ (.slice Ao109 t126.length co109)).setCell ⟨gb114, 3, none⟩ (.slice Ao110 t125.length co110)).heap[gb114]? = some (.cells #[.int .i64 t121, .int .i64 t127, .slice Ao109 t126.length co109, .slice Ao110 t125.length co110] 59 (0, 0))) := ⟨by refine zQ ?_; refine Qk (cs := #[.int .i64 t121, .int .i64 t127, .slice Ao109 t126.length co109, .slice none 0 0]) ?_ 3 _ rfl; refine zQ ?_; refine Qk (cs := #[.int .i64 t121, .int .i64 t127, .slice none 0 0, .slice none 0 0]) ?_ 2 _ rfl; refine zQ ?_; refine Qk (cs := #[.int .i64 t121, .int .i64 0, .slice none 0 0, .slice none 0 0]) ?_ 1 _ rfl; refine zQ ?_; refine Qk (cs := #[.int .i64 0, .int .i64 0, .slice none 0 0, .slice none 0 0]) ?_ 0 _ rfl; refine zQ ?_; exact BK114.out⟩
 have n6_ : Qz (Below w.heap.size w ((((w106.setCell ⟨gb114, 0, none⟩ (.int .i64 t121)).setCell ⟨gb114, 1, none⟩ (.int .i64 t127)).setCell ⟨gb114, 2, none⟩ (.slice Ao109 t126.length co109)).setCell ⟨gb114, 3, none⟩ (.slice Ao110 t125.length co110))) := ⟨zb⟩
 (try clear HO123)
 (try clear HO124)
 (try clear HO135)
 (try clear HO136)
 (try clear BK116)
 (try clear BK114)
 (try clear HB)
 generalize ((((w106.setCell ⟨gb114, 0, none⟩ (.int .i64 t121)).setCell ⟨gb114, 1, none⟩ (.int .i64 t127)).setCell ⟨gb114, 2, none⟩ (.slice Ao109 t126.length co109)).setCell ⟨gb114, 3, none⟩ (.slice Ao110 t125.length co110)) = w111 at n0_ n1_ n2_ n3_ n4_ n5_ n6_ ⊢
 have HO123 := n0_
 have HO124 := n1_
 have HO135 := n2_
 have HO136 := n3_
 have BK116 := n4_
 have BK114 := n5_
 have HB := n6_
 clear n0_ n1_ n2_ n3_ n4_ n5_ n6_
 have n0_ := Qz.mk (Kd.Qo HO123.out)
 have n1_ := Qz.mk (Kd.Qo HO124.out)
 have n2_ := Qz.mk (Kd.Qo HO135.out)
 have n3_ := Qz.mk (Kd.Qo HO136.out)
 have n4_ := Qz.mk (Qg BK116.out)
 have n5_ := Qz.mk (Qg BK114.out)
 have n6_ := Qz.mk (Qb HB.out)
 clear HO123
 clear HO124
 clear HO135
 clear HO136
 clear BK116
 clear BK114
 clear HB
 have HO123 := n0_
 have HO124 := n1_
 have HO135 := n2_
 have HO136 := n3_
 have BK116 := n4_
 have BK114 := n5_
 have HB := n6_
 clear n0_ n1_ n2_ n3_ n4_ n5_ n6_
 refine start_ (n := 8) (S := fun w' => w'.cell? ⟨gb116, 0, none⟩ = some (.slice Ao100 t115.length co100) ∧ w'.cell? ⟨gb116, 1, none⟩ = some (.slice Ao102 t118.length co102) ∧ w'.cell? ⟨gb114, 0, none⟩ = some (.int .i64 t121) ∧ w'.cell? ⟨gb114, 1, none⟩ = some (.int .i64 t127) ∧ w'.cell? ⟨gb114, 2, none⟩ = some (.slice Ao109 t126.length co109) ∧ w'.cell? ⟨gb114, 3, none⟩ = some (.slice Ao110 t125.length co110)) (ds := []) #[Z, Z, Z, Z, Z, Z, Z, Z] (by kernel_rfl) rfl rfl ⟨(Qh BK116.out 0).trans rfl, (Qh BK116.out 1).trans rfl, (Qh BK114.out 0).trans rfl, (Qh BK114.out 1).trans rfl, (Qh BK114.out 2).trans rfl, (Qh BK114.out 3).trans rfl⟩ (fun hHeld => ?_); refine with_tabW ZlFnTails.tab6 ZlFnTails.bits6 (fun HT_ HW_ => ?_)
 generalize w111.drew = w112 at HO123 HO124 HO135 HO136 BK116 BK114 HB hHeld ⊢
 refine zp 1 24 ?_; refine zp 4 27 ?_; refine zt 0 23 ?_; refine zt 5 28 ?_
 refine one_ (i := 2) (N := some 25) #[Y, Y, Y, Z, Y, Y, Z, Z] rfl rfl (one_of HT_.out (by kernel_rfl)) (by decide) (fun K hK => ?_)
 refine goes_ Try.func42 (by kernel_rfl) rfl #[.agg #[.slice Ao100 t115.length co100, .slice Ao102 t118.length co102], .int .i64 t132] (by rfl) rfl rfl zm ?_
 with_reducible refine (ZsCrashLog.calls k _ _ t115 _ _ t118 t132 t142 t162 t163 t164 _ ?side1 ?side2 ?side3 ?side4 A97.out).mono ?_
 (case side1 => exact zc (Kd.Qaj HO123.out).2.2)
 (case side2 => exact (Kd.Qaj HO123.out).2.1)
 (case side3 => exact zc (Kd.Qaj HO124.out).2.2)
 (case side4 => exact (Kd.Qaj HO124.out).2.1)
 rintro e w113 ⟨v169, v170, rfl, ho0, ho1, hb⟩
 refine ⟨_, rfl, ?_⟩
 have n0_ := Qz.mk (Kd.Qw (Kd.Qam (Kd.Qam (Kd.R_old (zr HO123) hb) (Kd.Qah ho0)) (Kd.Qah ho1)) (fun _ h_ => h_.1))
 have n1_ := Qz.mk (Kd.Qw (Kd.Qam (Kd.Qam (Kd.R_old (zr HO124) hb) (Kd.Qah ho0)) (Kd.Qah ho1)) (fun _ h_ => h_.1))
 have n2_ := Qz.mk (Kd.Qw (Kd.Qam (Kd.Qam (Kd.R_old (zr HO135) hb) (Kd.Qah ho0)) (Kd.Qah ho1)) (fun _ h_ => h_.1))
 have n3_ := Qz.mk (Kd.Qw (Kd.Qam (Kd.Qam (Kd.R_old (zr HO136) hb) (Kd.Qah ho0)) (Kd.Qah ho1)) (fun _ h_ => h_.1))
 have n4_ := Qz.mk (Kd.Qan (Kd.Qal (Kd.Qal (Kd.Qal (Kd.Qal ho0 (Kd.R_lt (zr HO123))) (Kd.R_lt (zr HO124))) (Kd.R_lt (zr HO135))) (Kd.R_lt (zr HO136))) (Qp zb))
 have n5_ := Qz.mk (Kd.Qan (Kd.Qal (Kd.Qal (Kd.Qal (Kd.Qal ho1 (Kd.R_lt (zr HO123))) (Kd.R_lt (zr HO124))) (Kd.R_lt (zr HO135))) (Kd.R_lt (zr HO136))) (Qp zb))
 have n6_ := Qz.mk (Qi (g := gb116) (o := .cells #[.slice Ao100 t115.length co100, .slice Ao102 t118.length co102] 27 (0, 0)) zk hb)
 have n7_ := Qz.mk (Qi (g := gb114) (o := .cells #[.int .i64 t121, .int .i64 t127, .slice Ao109 t126.length co109, .slice Ao110 t125.length co110] 59 (0, 0)) zk hb)
 have n8_ := Qz.mk (Qq zb hb)
 clear HO123
 clear HO124
 clear HO135
 clear HO136
 clear BK116
 clear BK114
 clear HB
 have HO123 := n0_
 have HO124 := n1_
 have HO135 := n2_
 have HO136 := n3_
 have HO171 := n4_
 have HO172 := n5_
 have BK116 := n6_
 have BK114 := n7_
 have HB := n8_
 clear n0_ n1_ n2_ n3_ n4_ n5_ n6_ n7_ n8_
 (try clear hb)
 (try clear hb2)
 (try clear hk)
 (try clear hi)
 (try clear ho0)
 (try clear ho1)
 refine hK.out _ _ ⟨(Qh BK116.out 0).trans rfl, (Qh BK116.out 1).trans rfl, (Qh BK114.out 0).trans rfl, (Qh BK114.out 1).trans rfl, (Qh BK114.out 2).trans rfl, (Qh BK114.out 3).trans rfl⟩ (fun hHeld => ?_)
 clear hK K
 refine norm_ (a' := ?_) ?_ ?_
 rotate_left
 ·show Act.put _ (some 25) _ = _
  simp only [Act.put, List.setIfInBounds_toArray, List.set_cons_zero, List.set_cons_succ, Qar, Qas]
  rfl
 refine zp 3 26 ?_; refine zp 6 29 ?_; refine zp 7 2 ?_
 refine done_ (done_of HT_.out (by kernel_rfl)) ?_
 try go_wp2
 go_ret
 exact ⟨by first | rfl | (simp [Qv, Qu] <;> rfl) | (simp [*, Qv, Qu] <;> rfl) | (exact congrArg (fun b_ => Ending.returned (Value.bool b_)) HT_.out) | (have HT2_ := HT_.out; simp_all), zb⟩
end Go.Proofs.Ythagppmaofcllaa.P
