import Derived.Test.YthagppmaofcllaaZz
import Derived.Test.YthagppmaofcllaaP0
import Derived.Test.YthagppmaofcllaaPCadefgh0
import Derived.Test.YthagppmaofcllaaPDadefgh0
import Derived.Test.YthagppmaofcllaaWRepsOne
import Derived.Test.YthagppmaofcllaaWTab
import Derived.Test.YthagppmaofcllaaLv
namespace Go.Proofs.Ythagppmaofcllaa.P
open Go.RowKit Go.Proofs.YthagppmaofcllaaW.PrintWords Go.Proofs.YthagppmaofcllaaW.PrintLast Go.Proofs.YthagppmaofcllaaW.PrintMore
attribute [local go_sem] max2_int min2_int max_two min_two max_three min_three max_four min_four   -- for this text's walks alone
set_option linter.unusedVariables false
set_option linter.unusedSimpArgs false
theorem yb0 {p : Prop} (h : p := by first | (go_simp; done) | (go_simp; rfl)) : p := h
def Zsl3Pack.T6 : Bool × List (List Nat × List Nat) := (true, [([], []), ([0], [0]), ([1], [1]), ([2], [2]), ([], []), ([4], [4]), ([5], [5]), ([3, 6, 6], [3, 6]), ([7, 7, 0, 1, 2, 3, 4, 5, 6, 7], [7])])
def Zsl3Pack.B6 : List Nat := [0, 1, 3, 7, 0, 16, 48, 127, 255]
theorem Zsl3Pack.tab6 : rtab .any (opsOf Try.f80 6) = Zsl3Pack.T6 := by kernel_rfl
theorem Zsl3Pack.bits6 : waitsOk Zsl3Pack.T6.2 Zsl3Pack.B6 = true := by kernel_rfl
def Zsl3Pack.T8 : Bool × List (List Nat × List Nat) := (true, [([], []), ([], []), ([1], [1]), ([2], [2]), ([0, 3, 3], [0, 3]), ([], []), ([5], [5]), ([6, 4], [6]), ([4, 7, 7], [4, 7]), ([], []), ([9], [9]), ([10, 8], [10]), ([8, 11, 11], [8, 11]), ([12, 12, 0, 1, 2, 3, 4, 5, 6, 7, 8, 9, 10, 11, 12], [0, 12])])
def Zsl3Pack.B8 : List Nat := [0, 0, 2, 6, 15, 0, 32, 127, 255, 0, 512, 2047, 4095, 8191]
theorem Zsl3Pack.tab8 : rtab .any (opsOf Try.f80 8) = Zsl3Pack.T8 := by kernel_rfl
theorem Zsl3Pack.bits8 : waitsOk Zsl3Pack.T8.2 Zsl3Pack.B8 = true := by kernel_rfl
set_option maxHeartbeats 8000000 in
set_option maxRecDepth 100000 in
theorem Zsl3Pack.calls (k : Nat) (a0_0 : Int) (a0_1 : Int) (a0_2 : Int) (a0_3 : Bool) (a0_4 : Int) (a0_5 : Bool) (a0_6 : Int) (a0_7 : Int) (r : List Int) (w : World) (h : Zsl3Pack.f k a0_0 a0_1 a0_2 a0_3 a0_4 a0_5 a0_6 a0_7 = some r) :
 Calls Try.prog 80 #[.agg #[.int .i64 a0_0, .int .i64 a0_1, .int .i64 a0_2, .bool a0_3, .int .i64 a0_4, .bool a0_5, .int .i64 a0_6, .int .i64 a0_7]] w fun e w' => ∃ v0_ : Value, e = .returned (v0_) ∧ Kd.R (Kd.int .u8) 5 w' w.heap.size (fun _ => True) v0_ r ∧ Below w.heap.size w w' := by
 have hu48 := Try.underlying48
 have HB := Qz.mk (Below.refl w.heap.size w)
 have H : (if a0_3 = true then (Zsl3Pack.j0 k 1 a0_0 a0_1 a0_2 a0_3 a0_4 a0_5 a0_6 a0_7) else (Zsl3Pack.j0 k 0 a0_0 a0_1 a0_2 a0_3 a0_4 a0_5 a0_6 a0_7)) = some r := h
 clear h
 have HC2 := Qz.mk H
 clear H
 go_enter Try.func80, Try.ntmps80
 go_upto_if 6 with (first | ((with_reducible refine gate_dst (N := 1) rfl ?_); refine box_event ?hg (N := 1) ?hd (cs := #[.int .i64 a0_0, .int .i64 a0_1, .int .i64 a0_2, .bool a0_3, .int .i64 a0_4, .bool a0_5, .int .i64 a0_6, .int .i64 a0_7]) (t := 48) ?hr ?_; (case hd => rfl); (case hg => rfl); (case hr => exact yb0); intro gb47 hg w3 hbox hb; have n0_ := Qz.mk (Qq zb hb); have n1_ := Qz.mk (hbox); have n2_ := Qz.mk ((zh hg : w.heap.size ≤ gb47)); have n3_ := n2_; clear HB; have HB := n0_; have BK47 := n1_; have GW47 := n2_; have GE47 := n3_; clear n0_ n1_ n2_ n3_; clear hb hbox hg; obtain ⟨z4_0, z4_1, z4_2, z4_3, z4_4, z4_5, z4_6, z4_7, j4_0, j4_1, j4_2, j4_3, j4_4, j4_5, j4_6, j4_7⟩ := Lv.blks8 BK47.out))
 (try simp only [Act.put, List.setIfInBounds_toArray, List.set_cons_zero, List.set_cons_succ])
 go_cut [3] (fun v3 wc => ∃ (kq : Nat) (x3_1 : Int), v3 = .int .u8 x3_1 ∧ Qz (Zsl3Pack.j0 kq x3_1 a0_0 a0_1 a0_2 a0_3 a0_4 a0_5 a0_6 a0_7 = some r) ∧ Qz (kq ≤ k) ∧ Qz (wc.heap[gb47]? = some (.cells #[.int .i64 a0_0, .int .i64 a0_1, .int .i64 a0_2, .bool a0_3, .int .i64 a0_4, .bool a0_5, .int .i64 a0_6, .int .i64 a0_7] 48 (0, 0))) ∧ Qz (Below w.heap.size w wc))
 case first =>
  have H := HC2.out
  clear HC2
  by_cases c5 : a0_3 = true
  ·subst c5
   have H1 : (Zsl3Pack.j0 k 1 a0_0 a0_1 a0_2 true a0_4 a0_5 a0_6 a0_7) = some r := by rw [if_pos rfl] at H; exact H
   clear H
   have H := H1
   clear H1
   have H' := Qz.mk H
   clear H
   go_wp2
   go_meet
   case rel => exact ⟨_, (1), zs, H', ⟨by first | omega | exact Nat.le_refl _⟩, ⟨zq BK47⟩, ⟨zb⟩⟩
  replace c5 := Bool.eq_false_iff.mpr c5
  subst c5
  have H1 : (Zsl3Pack.j0 k 0 a0_0 a0_1 a0_2 false a0_4 a0_5 a0_6 a0_7) = some r := by rw [if_neg (show ¬ (false = true) by decide)] at H; exact H
  clear H
  have H := H1
  clear H1
  have H' := Qz.mk H
  clear H
  go_wp2
  go_meet
  case rel => exact ⟨_, (0), zs, H', ⟨by first | omega | exact Nat.le_refl _⟩, ⟨zq BK47⟩, ⟨zb⟩⟩
 case rest =>
  clear HC2
  try clear p2
  try clear c5
  try clear z4_0 z4_1 z4_2 z4_3 z4_4 z4_5 z4_6 z4_7 j4_0 j4_1 j4_2 j4_3 j4_4 j4_5 j4_6 j4_7
  obtain ⟨kq, x3_1, rfl, HA, HJ1, BK47, HB⟩ := hcut
  cases kq with
  | zero => exact absurd HA.out (by simp [Zsl3Pack.j0])
  | succ kj1 =>
   have H := HA.out
   clear HA
   simp only [Zsl3Pack.j0] at H
   have HC6 := Qz.mk H
   clear H
   obtain ⟨z7_0, z7_1, z7_2, z7_3, z7_4, z7_5, z7_6, z7_7, j7_0, j7_1, j7_2, j7_3, j7_4, j7_5, j7_6, j7_7⟩ := Lv.blks8 BK47.out
   go_upto_if 8 with (fail)
   go_cut [3] (fun v3 wc => ∃ (kq : Nat) (x3_5 : Int), v3 = .int .u8 x3_5 ∧ Qz (Zsl3Pack.j1 kq x3_5 a0_0 a0_1 a0_2 a0_3 a0_4 a0_5 a0_6 a0_7 = some r) ∧ Qz (kq ≤ kj1) ∧ Qz (wc.heap[gb47]? = some (.cells #[.int .i64 a0_0, .int .i64 a0_1, .int .i64 a0_2, .bool a0_3, .int .i64 a0_4, .bool a0_5, .int .i64 a0_6, .int .i64 a0_7] 48 (0, 0))) ∧ Qz (Below w.heap.size w wc))
   case first =>
    have H := HC6.out
    clear HC6
    by_cases c8 : a0_5 = true
    ·subst c8
     have H1 : (Zsl3Pack.j1 kj1 ((x3_1 + 2) % 256) a0_0 a0_1 a0_2 a0_3 a0_4 true a0_6 a0_7) = some r := by rw [if_pos rfl] at H; exact H
     clear H
     have H := H1
     clear H1
     have H' := Qz.mk H
     clear H
     go_wp2
     go_meet
     case rel => exact ⟨_, ((x3_1 + 2) % 256), zs, H', ⟨by have := HJ1.out; first | omega | exact Nat.le_refl _⟩, ⟨zq BK47⟩, ⟨zb⟩⟩
    replace c8 := Bool.eq_false_iff.mpr c8
    subst c8
    have H1 : (Zsl3Pack.j1 kj1 x3_1 a0_0 a0_1 a0_2 a0_3 a0_4 false a0_6 a0_7) = some r := by rw [if_neg (show ¬ (false = true) by decide)] at H; exact H
    clear H
    have H := H1
    clear H1
    have H' := Qz.mk H
    clear H
    go_wp2
    go_meet
    case rel => exact ⟨_, (x3_1), zs, H', ⟨by have := HJ1.out; first | omega | exact Nat.le_refl _⟩, ⟨zq BK47⟩, ⟨zb⟩⟩
   case rest =>
    clear HC6
    try clear p2
    try clear c5
    try clear c8
    try clear z4_0 z4_1 z4_2 z4_3 z4_4 z4_5 z4_6 z4_7
    try clear z7_0 z7_1 z7_2 z7_3 z7_4 z7_5 z7_6 z7_7
    try clear j4_0 j4_1 j4_2 j4_3 j4_4 j4_5 j4_6 j4_7
    try clear j7_0 j7_1 j7_2 j7_3 j7_4 j7_5 j7_6 j7_7
    try clear p2
    obtain ⟨kq, x3_5, rfl, HA, HJ5, BK47, HB⟩ := hcut
    cases kq with
    | zero => exact absurd HA.out (by simp [Zsl3Pack.j1])
    | succ kj5 =>
     have H := HA.out
     clear HA
     simp only [Zsl3Pack.j1] at H
     obtain ⟨y66, hy66⟩ : ∃ y_ : List Int, y_ = (([(a0_0) % 256] : List Int)) := ⟨_, rfl⟩
     replace H : ((Zsl1Bytes.f kj5 a0_1 2).bind fun t58 => (if y66.length + t58.length < 140737488355328 then ((some (y66 ++ t58 : List Int)).bind fun y65 => ((some (([(a0_2) % 256, x3_5] : List Int) : List Int)).bind fun y53 => (if y65.length + y53.length < 140737488355328 then ((some (y65 ++ y53 : List Int)).bind fun y61 => ((Zsl1Bytes.f kj5 a0_4 2).bind fun t56 => (if y61.length + t56.length < 140737488355328 then ((some (y61 ++ t56 : List Int)).bind fun y59 => ((Zsl1Bytes.f kj5 a0_6 2).bind fun t54 => (if y59.length + t54.length < 140737488355328 then ((some (y59 ++ t54 : List Int)).bind fun y57 => ((Zsl1Bytes.f kj5 a0_7 2).bind fun t52 => (if y57.length + t52.length < 140737488355328 then ((some (y57 ++ t52 : List Int)).bind fun y49 => ((ZsSumBytes.f kj5 y49).bind fun t62 => ((Zsl1Bytes.f kj5 t62 2).bind fun t51 => (if y49.length + t51.length < 140737488355328 then (some (y49 ++ t51)) else (none))))) else (none)))) else (none)))) else (none)))) else (none)))) else (none))) = some r := by first | (rw [hy66]; with_reducible exact H) | (have H2_ := (Option.bind_some _ _).symm.trans H; rw [hy66]; with_reducible exact H2_) | (have H2_ := (Option.bind_some _ _).symm.trans H; with_reducible exact H2_) | with_reducible exact H | (rw [hy66]; exact H) | exact H
     have Ny66 := Qz.mk hy66
     clear hy66
     replace H := Option.bind_eq_some_iff.mp H
     obtain ⟨t58, A90, H⟩ := H
     replace H : (if y66.length + t58.length < 140737488355328 then ((some (y66 ++ t58 : List Int)).bind fun y65 => ((some (([(a0_2) % 256, x3_5] : List Int) : List Int)).bind fun y53 => (if y65.length + y53.length < 140737488355328 then ((some (y65 ++ y53 : List Int)).bind fun y61 => ((Zsl1Bytes.f kj5 a0_4 2).bind fun t56 => (if y61.length + t56.length < 140737488355328 then ((some (y61 ++ t56 : List Int)).bind fun y59 => ((Zsl1Bytes.f kj5 a0_6 2).bind fun t54 => (if y59.length + t54.length < 140737488355328 then ((some (y59 ++ t54 : List Int)).bind fun y57 => ((Zsl1Bytes.f kj5 a0_7 2).bind fun t52 => (if y57.length + t52.length < 140737488355328 then ((some (y57 ++ t52 : List Int)).bind fun y49 => ((ZsSumBytes.f kj5 y49).bind fun t62 => ((Zsl1Bytes.f kj5 t62 2).bind fun t51 => (if y49.length + t51.length < 140737488355328 then (some (y49 ++ t51)) else (none))))) else (none)))) else (none)))) else (none)))) else (none)))) else (none)) = some r := H
     have A9 := Qz.mk A90
     clear A90
     by_cases c10 : y66.length + t58.length < 140737488355328
     ·rw [if_pos c10] at H
      have LMc10 := Qz.mk c10
      clear c10
      obtain ⟨y65, hy65⟩ : ∃ y_ : List Int, y_ = (y66 ++ t58) := ⟨_, rfl⟩
      replace H : ((some (([(a0_2) % 256, x3_5] : List Int) : List Int)).bind fun y53 => (if y65.length + y53.length < 140737488355328 then ((some (y65 ++ y53 : List Int)).bind fun y61 => ((Zsl1Bytes.f kj5 a0_4 2).bind fun t56 => (if y61.length + t56.length < 140737488355328 then ((some (y61 ++ t56 : List Int)).bind fun y59 => ((Zsl1Bytes.f kj5 a0_6 2).bind fun t54 => (if y59.length + t54.length < 140737488355328 then ((some (y59 ++ t54 : List Int)).bind fun y57 => ((Zsl1Bytes.f kj5 a0_7 2).bind fun t52 => (if y57.length + t52.length < 140737488355328 then ((some (y57 ++ t52 : List Int)).bind fun y49 => ((ZsSumBytes.f kj5 y49).bind fun t62 => ((Zsl1Bytes.f kj5 t62 2).bind fun t51 => (if y49.length + t51.length < 140737488355328 then (some (y49 ++ t51)) else (none))))) else (none)))) else (none)))) else (none)))) else (none))) = some r := by first | (rw [hy65]; with_reducible exact H) | (have H2_ := (Option.bind_some _ _).symm.trans H; rw [hy65]; with_reducible exact H2_) | (have H2_ := (Option.bind_some _ _).symm.trans H; with_reducible exact H2_) | with_reducible exact H | (rw [hy65]; exact H) | exact H
      have Ny65 := Qz.mk hy65
      clear hy65
      obtain ⟨y53, hy53⟩ : ∃ y_ : List Int, y_ = (([(a0_2) % 256, x3_5] : List Int)) := ⟨_, rfl⟩
      replace H : (if y65.length + y53.length < 140737488355328 then ((some (y65 ++ y53 : List Int)).bind fun y61 => ((Zsl1Bytes.f kj5 a0_4 2).bind fun t56 => (if y61.length + t56.length < 140737488355328 then ((some (y61 ++ t56 : List Int)).bind fun y59 => ((Zsl1Bytes.f kj5 a0_6 2).bind fun t54 => (if y59.length + t54.length < 140737488355328 then ((some (y59 ++ t54 : List Int)).bind fun y57 => ((Zsl1Bytes.f kj5 a0_7 2).bind fun t52 => (if y57.length + t52.length < 140737488355328 then ((some (y57 ++ t52 : List Int)).bind fun y49 => ((ZsSumBytes.f kj5 y49).bind fun t62 => ((Zsl1Bytes.f kj5 t62 2).bind fun t51 => (if y49.length + t51.length < 140737488355328 then (some (y49 ++ t51)) else (none))))) else (none)))) else (none)))) else (none)))) else (none)) = some r := by first | (rw [hy53]; with_reducible exact H) | (have H2_ := (Option.bind_some _ _).symm.trans H; rw [hy53]; with_reducible exact H2_) | (have H2_ := (Option.bind_some _ _).symm.trans H; with_reducible exact H2_) | with_reducible exact H | (rw [hy53]; exact H) | exact H
      have Ny53 := Qz.mk hy53
      clear hy53
      by_cases c11 : y65.length + y53.length < 140737488355328
      ·rw [if_pos c11] at H
       have LMc11 := Qz.mk c11
       clear c11
       obtain ⟨y61, hy61⟩ : ∃ y_ : List Int, y_ = (y65 ++ y53) := ⟨_, rfl⟩
       replace H : ((Zsl1Bytes.f kj5 a0_4 2).bind fun t56 => (if y61.length + t56.length < 140737488355328 then ((some (y61 ++ t56 : List Int)).bind fun y59 => ((Zsl1Bytes.f kj5 a0_6 2).bind fun t54 => (if y59.length + t54.length < 140737488355328 then ((some (y59 ++ t54 : List Int)).bind fun y57 => ((Zsl1Bytes.f kj5 a0_7 2).bind fun t52 => (if y57.length + t52.length < 140737488355328 then ((some (y57 ++ t52 : List Int)).bind fun y49 => ((ZsSumBytes.f kj5 y49).bind fun t62 => ((Zsl1Bytes.f kj5 t62 2).bind fun t51 => (if y49.length + t51.length < 140737488355328 then (some (y49 ++ t51)) else (none))))) else (none)))) else (none)))) else (none))) = some r := by first | (rw [hy61]; with_reducible exact H) | (have H2_ := (Option.bind_some _ _).symm.trans H; rw [hy61]; with_reducible exact H2_) | (have H2_ := (Option.bind_some _ _).symm.trans H; with_reducible exact H2_) | with_reducible exact H | (rw [hy61]; exact H) | exact H
       have Ny61 := Qz.mk hy61
       clear hy61
       replace H := Option.bind_eq_some_iff.mp H
       obtain ⟨t56, A78, H⟩ := H
       replace H : (if y61.length + t56.length < 140737488355328 then ((some (y61 ++ t56 : List Int)).bind fun y59 => ((Zsl1Bytes.f kj5 a0_6 2).bind fun t54 => (if y59.length + t54.length < 140737488355328 then ((some (y59 ++ t54 : List Int)).bind fun y57 => ((Zsl1Bytes.f kj5 a0_7 2).bind fun t52 => (if y57.length + t52.length < 140737488355328 then ((some (y57 ++ t52 : List Int)).bind fun y49 => ((ZsSumBytes.f kj5 y49).bind fun t62 => ((Zsl1Bytes.f kj5 t62 2).bind fun t51 => (if y49.length + t51.length < 140737488355328 then (some (y49 ++ t51)) else (none))))) else (none)))) else (none)))) else (none)) = some r := H
       have A12 := Qz.mk A78
       clear A78
       by_cases c13 : y61.length + t56.length < 140737488355328
       ·rw [if_pos c13] at H
        have LMc13 := Qz.mk c13
        clear c13
        obtain ⟨y59, hy59⟩ : ∃ y_ : List Int, y_ = (y61 ++ t56) := ⟨_, rfl⟩
        replace H : ((Zsl1Bytes.f kj5 a0_6 2).bind fun t54 => (if y59.length + t54.length < 140737488355328 then ((some (y59 ++ t54 : List Int)).bind fun y57 => ((Zsl1Bytes.f kj5 a0_7 2).bind fun t52 => (if y57.length + t52.length < 140737488355328 then ((some (y57 ++ t52 : List Int)).bind fun y49 => ((ZsSumBytes.f kj5 y49).bind fun t62 => ((Zsl1Bytes.f kj5 t62 2).bind fun t51 => (if y49.length + t51.length < 140737488355328 then (some (y49 ++ t51)) else (none))))) else (none)))) else (none))) = some r := by first | (rw [hy59]; with_reducible exact H) | (have H2_ := (Option.bind_some _ _).symm.trans H; rw [hy59]; with_reducible exact H2_) | (have H2_ := (Option.bind_some _ _).symm.trans H; with_reducible exact H2_) | with_reducible exact H | (rw [hy59]; exact H) | exact H
        have Ny59 := Qz.mk hy59
        clear hy59
        replace H := Option.bind_eq_some_iff.mp H
        obtain ⟨t54, A58, H⟩ := H
        replace H : (if y59.length + t54.length < 140737488355328 then ((some (y59 ++ t54 : List Int)).bind fun y57 => ((Zsl1Bytes.f kj5 a0_7 2).bind fun t52 => (if y57.length + t52.length < 140737488355328 then ((some (y57 ++ t52 : List Int)).bind fun y49 => ((ZsSumBytes.f kj5 y49).bind fun t62 => ((Zsl1Bytes.f kj5 t62 2).bind fun t51 => (if y49.length + t51.length < 140737488355328 then (some (y49 ++ t51)) else (none))))) else (none)))) else (none)) = some r := H
        have A14 := Qz.mk A58
        clear A58
        by_cases c15 : y59.length + t54.length < 140737488355328
        ·rw [if_pos c15] at H
         have LMc15 := Qz.mk c15
         clear c15
         obtain ⟨y57, hy57⟩ : ∃ y_ : List Int, y_ = (y59 ++ t54) := ⟨_, rfl⟩
         replace H : ((Zsl1Bytes.f kj5 a0_7 2).bind fun t52 => (if y57.length + t52.length < 140737488355328 then ((some (y57 ++ t52 : List Int)).bind fun y49 => ((ZsSumBytes.f kj5 y49).bind fun t62 => ((Zsl1Bytes.f kj5 t62 2).bind fun t51 => (if y49.length + t51.length < 140737488355328 then (some (y49 ++ t51)) else (none))))) else (none))) = some r := by first | (rw [hy57]; with_reducible exact H) | (have H2_ := (Option.bind_some _ _).symm.trans H; rw [hy57]; with_reducible exact H2_) | (have H2_ := (Option.bind_some _ _).symm.trans H; with_reducible exact H2_) | with_reducible exact H | (rw [hy57]; exact H) | exact H
         have Ny57 := Qz.mk hy57
         clear hy57
         replace H := Option.bind_eq_some_iff.mp H
         obtain ⟨t52, A63, H⟩ := H
         replace H : (if y57.length + t52.length < 140737488355328 then ((some (y57 ++ t52 : List Int)).bind fun y49 => ((ZsSumBytes.f kj5 y49).bind fun t62 => ((Zsl1Bytes.f kj5 t62 2).bind fun t51 => (if y49.length + t51.length < 140737488355328 then (some (y49 ++ t51)) else (none))))) else (none)) = some r := H
         have A16 := Qz.mk A63
         clear A63
         by_cases c17 : y57.length + t52.length < 140737488355328
         ·rw [if_pos c17] at H
          have LMc17 := Qz.mk c17
          clear c17
          obtain ⟨y49, hy49⟩ : ∃ y_ : List Int, y_ = (y57 ++ t52) := ⟨_, rfl⟩
          replace H : ((ZsSumBytes.f kj5 y49).bind fun t62 => ((Zsl1Bytes.f kj5 t62 2).bind fun t51 => (if y49.length + t51.length < 140737488355328 then (some (y49 ++ t51)) else (none)))) = some r := by first | (rw [hy49]; with_reducible exact H) | (have H2_ := (Option.bind_some _ _).symm.trans H; rw [hy49]; with_reducible exact H2_) | (have H2_ := (Option.bind_some _ _).symm.trans H; with_reducible exact H2_) | with_reducible exact H | (rw [hy49]; exact H) | exact H
          have Ny49 := Qz.mk hy49
          clear hy49
          replace H := Option.bind_eq_some_iff.mp H
          obtain ⟨t62, A79, H⟩ := H
          replace H : ((Zsl1Bytes.f kj5 t62 2).bind fun t51 => (if y49.length + t51.length < 140737488355328 then (some (y49 ++ t51)) else (none))) = some r := H
          have A18 := Qz.mk A79
          clear A79
          replace H := Option.bind_eq_some_iff.mp H
          obtain ⟨t51, A81, H⟩ := H
          replace H : (if y49.length + t51.length < 140737488355328 then (some (y49 ++ t51)) else (none)) = some r := H
          have A19 := Qz.mk A81
          clear A81
          by_cases c20 : y49.length + t51.length < 140737488355328
          ·rw [if_pos c20] at H
           have LMc20 := Qz.mk c20
           clear c20
           obtain ⟨y71, hy71⟩ : ∃ y_ : List Int, y_ = (y49 ++ t51) := ⟨_, rfl⟩
           replace H : (some y71) = some r := by first | (rw [hy71]; with_reducible exact H) | (have H2_ := (Option.bind_some _ _).symm.trans H; rw [hy71]; with_reducible exact H2_) | (have H2_ := (Option.bind_some _ _).symm.trans H; with_reducible exact H2_) | with_reducible exact H | (rw [hy71]; exact H) | exact H
           have Ny71 := Qz.mk hy71
           clear hy71
           obtain rfl := Option.some.inj H
           try go_wp2
           have n0_ := Qz.mk (Qg BK47.out)
           have n1_ := Qz.mk (Qb HB.out)
           clear BK47
           clear HB
           have BK47 := n0_
           have HB := n1_
           clear n0_ n1_
           refine start_ (n := 9) (S := fun w' => w'.cell? ⟨gb47, 0, none⟩ = some (.int .i64 a0_0) ∧ w'.cell? ⟨gb47, 1, none⟩ = some (.int .i64 a0_1) ∧ w'.cell? ⟨gb47, 2, none⟩ = some (.int .i64 a0_2) ∧ w'.cell? ⟨gb47, 3, none⟩ = some (.bool a0_3) ∧ w'.cell? ⟨gb47, 4, none⟩ = some (.int .i64 a0_4) ∧ w'.cell? ⟨gb47, 5, none⟩ = some (.bool a0_5) ∧ w'.cell? ⟨gb47, 6, none⟩ = some (.int .i64 a0_6) ∧ w'.cell? ⟨gb47, 7, none⟩ = some (.int .i64 a0_7)) (ds := []) #[Z, Z, Z, Z, Z, Z, Z, Z, Z] (by kernel_rfl) rfl rfl ⟨(Qh BK47.out 0).trans rfl, (Qh BK47.out 1).trans rfl, (Qh BK47.out 2).trans rfl, (Qh BK47.out 3).trans rfl, (Qh BK47.out 4).trans rfl, (Qh BK47.out 5).trans rfl, (Qh BK47.out 6).trans rfl, (Qh BK47.out 7).trans rfl⟩ (fun hHeld => ?_); refine with_tabW Zsl3Pack.tab6 Zsl3Pack.bits6 (fun HT_ HW_ => ?_)
           generalize wc.drew = w21 at BK47 HB hHeld ⊢
           refine zp 0 11 ?_; refine zp 4 15 ?_; refine zt 1 12 ?_; refine zp 2 13 ?_; refine zt 5 16 ?_
           refine join_ (σ := Value × Value) 2 #[Y, Y, Y, Y, Y, Y, Y, Z, Z] (fun s_ => [(14, s_.1), (17, s_.2)]) (fun s_ w' => (w'.cell? ⟨gb47, 0, none⟩ = some (.int .i64 a0_0) ∧ w'.cell? ⟨gb47, 1, none⟩ = some (.int .i64 a0_1) ∧ w'.cell? ⟨gb47, 2, none⟩ = some (.int .i64 a0_2) ∧ w'.cell? ⟨gb47, 3, none⟩ = some (.bool a0_3) ∧ w'.cell? ⟨gb47, 4, none⟩ = some (.int .i64 a0_4) ∧ w'.cell? ⟨gb47, 5, none⟩ = some (.bool a0_5) ∧ w'.cell? ⟨gb47, 6, none⟩ = some (.int .i64 a0_6) ∧ w'.cell? ⟨gb47, 7, none⟩ = some (.int .i64 a0_7)) ∧ (Kd.R (Kd.int .u8) 5 w' w.heap.size (fun k_ => some k_ ≠ (s_.2 : Value).ownBlock) s_.1 y66) ∧ (Kd.R (Kd.int .u8) 5 w' w.heap.size (fun k_ => some k_ ≠ (s_.1 : Value).ownBlock) s_.2 t58) ∧ (w'.heap[gb47]? = some (.cells #[.int .i64 a0_0, .int .i64 a0_1, .int .i64 a0_2, .bool a0_3, .int .i64 a0_4, .bool a0_5, .int .i64 a0_6, .int .i64 a0_7] 48 (0, 0))) ∧ (Below w.heap.size w w')) ?_ ?_
           rotate_left
           ·intro hCont
            refine two_ (i := 3) (j := 6) (Ni := some 14) (Nj := some 17) #[Y, Y, Y, Y, Y, Y, Z, Z, Z] #[Y, Y, Y, Z, Y, Y, Y, Z, Z] rfl rfl rfl rfl (two_of HT_.out (by kernel_rfl)) (by decide) (by decide) (fun K hK => ?_) (fun K hK => ?_)
            ·skip
             refine Kd.R_lit_step (Kd.int .u8) _ 5 ?hg (N := 14) ?hd (xs := ([(a0_0) % 256] : List Int)) (inner := [.int .u8 ((a0_0) % 256)]) (ok := fun _ => True) (okp := fun _ => True) ?hr ?hp (fun _ hk => hk) trivial (Below.refl _ _) (Nat.le_refl _) (by simp) ?_; (case hd => rfl); (case hg => rfl); (case hr => exact yb0); (case hp => exact (Reps.one (show Kd.M (Kd.int .u8) _ _ _ ((a0_0) % 256) [.int .u8 ((a0_0) % 256)] from rfl) (Reps.none _ _)))
             intro v72 w22 ho23 hb hg_ hnew_
             clear hg_ hnew_
             (first | rw [← Ny66.out] at ho23 | (simp only [Int.reduceToNat] at ho23; rw [← Ny66.out] at ho23))
             have n0_ := Qz.mk (Kd.Qan ho23 (Qp zb))
             have n1_ := Qz.mk (Qi (g := gb47) (o := .cells #[.int .i64 a0_0, .int .i64 a0_1, .int .i64 a0_2, .bool a0_3, .int .i64 a0_4, .bool a0_5, .int .i64 a0_6, .int .i64 a0_7] 48 (0, 0)) zk hb)
             have n2_ := Qz.mk (Qq zb hb)
             clear BK47
             clear HB
             have HO68 := n0_
             have BK47 := n1_
             have HB := n2_
             clear n0_ n1_ n2_
             clear hb ho23
             refine hK.out _ _ ⟨(Qh BK47.out 0).trans rfl, (Qh BK47.out 1).trans rfl, (Qh BK47.out 2).trans rfl, (Qh BK47.out 3).trans rfl, (Qh BK47.out 4).trans rfl, (Qh BK47.out 5).trans rfl, (Qh BK47.out 6).trans rfl, (Qh BK47.out 7).trans rfl⟩ (fun hHeld => ?_)
             clear hK K
             refine norm_ (a' := ?_) ?_ ?_
             rotate_left
             ·show Act.put _ (some 14) _ = _
              simp only [Act.put, List.setIfInBounds_toArray, List.set_cons_zero, List.set_cons_succ, Qar, Qas]
              rfl
             refine one_ (i := 6) (N := some 17) #[Y, Y, Y, Y, Y, Y, Y, Z, Z] rfl rfl (one_of HT_.out (by kernel_rfl)) (by decide) (fun K hK => ?_)
             refine goes_ Try.func94 (by kernel_rfl) rfl #[.int .i64 a0_1, .int .i64 2] (by rfl) rfl rfl zm ?_
             with_reducible refine (Zsl1Bytes.calls kj5 a0_1 2 t58 _ A9.out).mono ?_
             rintro e w24 ⟨v76, rfl, ho0, hb⟩
             refine ⟨_, rfl, ?_⟩
             have n0_ := Qz.mk (Kd.R_elder' (zr HO68) (Kd.Qah ho0) hb)
             have n1_ := Qz.mk (Kd.Qan (Kd.Qal ho0 (Kd.R_lt (zr HO68))) (Qp zb))
             have n2_ := Qz.mk (Qi (g := gb47) (o := .cells #[.int .i64 a0_0, .int .i64 a0_1, .int .i64 a0_2, .bool a0_3, .int .i64 a0_4, .bool a0_5, .int .i64 a0_6, .int .i64 a0_7] 48 (0, 0)) zk hb)
             have n3_ := Qz.mk (Qq zb hb)
             clear HO68
             clear BK47
             clear HB
             have HO68 := n0_
             have HO50 := n1_
             have BK47 := n2_
             have HB := n3_
             clear n0_ n1_ n2_ n3_
             (try clear hb)
             (try clear hb2)
             (try clear hk)
             (try clear hi)
             (try clear ho0)
             refine hK.out _ _ ⟨(Qh BK47.out 0).trans rfl, (Qh BK47.out 1).trans rfl, (Qh BK47.out 2).trans rfl, (Qh BK47.out 3).trans rfl, (Qh BK47.out 4).trans rfl, (Qh BK47.out 5).trans rfl, (Qh BK47.out 6).trans rfl, (Qh BK47.out 7).trans rfl⟩ (fun hHeld => ?_)
             clear hK K
             refine norm_ (a' := ?_) ?_ ?_
             rotate_left
             ·show Act.put _ (some 17) _ = _
              simp only [Act.put, List.setIfInBounds_toArray, List.set_cons_zero, List.set_cons_succ, Qar, Qas]
              rfl
             exact norm_ (by simp only [putAll, Act.put, List.setIfInBounds_toArray, List.set_cons_zero, List.set_cons_succ]) (hCont (v72, v76) _ ⟨hHeld, (by refine zR ?_; exact Kd.Qw HO68.out (fun _ hk => hk.2)), (by refine zR ?_; exact Kd.Qw HO50.out (fun _ hk => hk.2)), zk, zb⟩)
            skip
            refine goes_ Try.func94 (by kernel_rfl) rfl #[.int .i64 a0_1, .int .i64 2] (by rfl) rfl rfl zm ?_
            with_reducible refine (Zsl1Bytes.calls kj5 a0_1 2 t58 _ A9.out).mono ?_
            rintro e w22 ⟨v76, rfl, ho0, hb⟩
            refine ⟨_, rfl, ?_⟩
            have n0_ := Qz.mk (Kd.Qan ho0 (Qp zb))
            have n1_ := Qz.mk (Qi (g := gb47) (o := .cells #[.int .i64 a0_0, .int .i64 a0_1, .int .i64 a0_2, .bool a0_3, .int .i64 a0_4, .bool a0_5, .int .i64 a0_6, .int .i64 a0_7] 48 (0, 0)) zk hb)
            have n2_ := Qz.mk (Qq zb hb)
            clear BK47
            clear HB
            have HO50 := n0_
            have BK47 := n1_
            have HB := n2_
            clear n0_ n1_ n2_
            (try clear hb)
            (try clear hb2)
            (try clear hk)
            (try clear hi)
            (try clear ho0)
            refine hK.out _ _ ⟨(Qh BK47.out 0).trans rfl, (Qh BK47.out 1).trans rfl, (Qh BK47.out 2).trans rfl, (Qh BK47.out 3).trans rfl, (Qh BK47.out 4).trans rfl, (Qh BK47.out 5).trans rfl, (Qh BK47.out 6).trans rfl, (Qh BK47.out 7).trans rfl⟩ (fun hHeld => ?_)
            clear hK K
            refine norm_ (a' := ?_) ?_ ?_
            rotate_left
            ·show Act.put _ (some 17) _ = _
             simp only [Act.put, List.setIfInBounds_toArray, List.set_cons_zero, List.set_cons_succ, Qar, Qas]
             rfl
            refine one_ (i := 3) (N := some 14) #[Y, Y, Y, Y, Y, Y, Y, Z, Z] rfl rfl (one_of HT_.out (by kernel_rfl)) (by decide) (fun K hK => ?_)
            refine Kd.R_lit_step (Kd.int .u8) _ 5 ?hg (N := 14) ?hd (xs := ([(a0_0) % 256] : List Int)) (inner := [.int .u8 ((a0_0) % 256)]) (ok := fun _ => True) (okp := fun _ => True) ?hr ?hp (fun _ hk => hk) trivial (Below.refl _ _) (Nat.le_refl _) (by simp) ?_; (case hd => rfl); (case hg => rfl); (case hr => exact yb0); (case hp => exact (Reps.one (show Kd.M (Kd.int .u8) _ _ _ ((a0_0) % 256) [.int .u8 ((a0_0) % 256)] from rfl) (Reps.none _ _)))
            intro v72 w23 ho24 hb hg_ hnew_
            clear hg_ hnew_
            (first | rw [← Ny66.out] at ho24 | (simp only [Int.reduceToNat] at ho24; rw [← Ny66.out] at ho24))
            have n0_ := Qz.mk (Kd.R_elder' (zr HO50) (Kd.Qah ho24) hb)
            have n1_ := Qz.mk (Kd.Qan (Kd.Qal ho24 (Kd.R_lt (zr HO50))) (Qp zb))
            have n2_ := Qz.mk (Qi (g := gb47) (o := .cells #[.int .i64 a0_0, .int .i64 a0_1, .int .i64 a0_2, .bool a0_3, .int .i64 a0_4, .bool a0_5, .int .i64 a0_6, .int .i64 a0_7] 48 (0, 0)) zk hb)
            have n3_ := Qz.mk (Qq zb hb)
            clear HO50
            clear BK47
            clear HB
            have HO50 := n0_
            have HO68 := n1_
            have BK47 := n2_
            have HB := n3_
            clear n0_ n1_ n2_ n3_
            clear hb ho24
            refine hK.out _ _ ⟨(Qh BK47.out 0).trans rfl, (Qh BK47.out 1).trans rfl, (Qh BK47.out 2).trans rfl, (Qh BK47.out 3).trans rfl, (Qh BK47.out 4).trans rfl, (Qh BK47.out 5).trans rfl, (Qh BK47.out 6).trans rfl, (Qh BK47.out 7).trans rfl⟩ (fun hHeld => ?_)
            clear hK K
            refine norm_ (a' := ?_) ?_ ?_
            rotate_left
            ·show Act.put _ (some 14) _ = _
             simp only [Act.put, List.setIfInBounds_toArray, List.set_cons_zero, List.set_cons_succ, Qar, Qas]
             rfl
            exact norm_ (by simp only [putAll, Act.put, List.setIfInBounds_toArray, List.set_cons_zero, List.set_cons_succ]) (hCont (v72, v76) _ ⟨hHeld, (by refine zR ?_; exact Kd.Qw HO68.out (fun _ hk => hk.2)), (by refine zR ?_; exact Kd.Qw HO50.out (fun _ hk => hk.2)), zk, zb⟩)
           rintro ⟨v72, v76⟩ w25 ⟨hS_, h0_, h1_, h2_, h3_⟩
           have n0_ : Qz (Kd.R (Kd.int .u8) 5 w25 w.heap.size (fun k_ => some k_ ≠ (v76 : Value).ownBlock) v72 y66) := ⟨h0_⟩
           have n1_ : Qz (Kd.R (Kd.int .u8) 5 w25 w.heap.size (fun k_ => some k_ ≠ (v72 : Value).ownBlock) v76 t58) := ⟨h1_⟩
           have n2_ : Qz (w25.heap[gb47]? = some (.cells #[.int .i64 a0_0, .int .i64 a0_1, .int .i64 a0_2, .bool a0_3, .int .i64 a0_4, .bool a0_5, .int .i64 a0_6, .int .i64 a0_7] 48 (0, 0))) := ⟨h2_⟩
           have n3_ : Qz (Below w.heap.size w w25) := ⟨h3_⟩
           clear BK47
           clear HB
           clear h0_ h1_ h2_ h3_
           have HO68 := n0_
           have HO50 := n1_
           have BK47 := n2_
           have HB := n3_
           clear n0_ n1_ n2_ n3_
           have hHeld : w25.cell? ⟨gb47, 0, none⟩ = some (.int .i64 a0_0) ∧ w25.cell? ⟨gb47, 1, none⟩ = some (.int .i64 a0_1) ∧ w25.cell? ⟨gb47, 2, none⟩ = some (.int .i64 a0_2) ∧ w25.cell? ⟨gb47, 3, none⟩ = some (.bool a0_3) ∧ w25.cell? ⟨gb47, 4, none⟩ = some (.int .i64 a0_4) ∧ w25.cell? ⟨gb47, 5, none⟩ = some (.bool a0_5) ∧ w25.cell? ⟨gb47, 6, none⟩ = some (.int .i64 a0_6) ∧ w25.cell? ⟨gb47, 7, none⟩ = some (.int .i64 a0_7) := hS_
           obtain ⟨Ao27, co27, eo27⟩ := Kd.R_slice HO50.out
           (first | subst eo27 | (injection eo27 with f1_ f2_ f3_; have f4_ := f1_.symm; have f5_ := f3_.symm; clear f1_ f2_ f3_; subst f4_; subst f5_))
           refine norm_ (a' := ?_) ?_ ?_
           rotate_left
           ·simp only [putAll, Act.put, List.setIfInBounds_toArray, List.set_cons_zero, List.set_cons_succ]
            rfl
           refine one_ (i := 7) (N := some 18) #[Y, Y, Y, Y, Y, Y, Y, Y, Z] rfl rfl (one_of HT_.out (by kernel_rfl)) (by decide) (fun K hK => ?_)
           refine Kd.R_append_rows_step (Kd.int .u8) (w0 := w) w.heap.size (by rfl) (.tmp 14) (.tmp 17) 22 5 (.int .u8 0) 1 rfl Try.underlying22 info5 rfl (by decide) (by omega) v72 y66 t58 _ _ _ (fun k_ => some k_ ≠ (.slice Ao27 t58.length co27 : Value).ownBlock) (fun _ => False) rfl rfl ?aO ?aR (fun _ _ h => h) (fun _ h => h.elim) ?aF ?aB ?aS ?aL ?_
           (case aR => repeat (first | exact (Kd.Qaj HO50.out).2.2 | (with_reducible first | refine Kd.Qaa ?_ _ | refine Kd.Qz ?_ _ | refine Kd.Qab ?_)))
           (case aB => exact zb)
           (case aF => exact (fun k_ hk => Kd.fresh' (Kd.R_lt (zr HO50)) k_ hk))
           (case aO => exact (zr HO68))
           (case aS => exact (Qp zb))
           (case aL => have := LMc10.out; omega)
           intro v82 w26 ho hb hg hat
           rw [← Ny65.out] at ho
           have n0_ := Qz.mk (blk_grown (g := gb47) (o := .cells #[.int .i64 a0_0, .int .i64 a0_1, .int .i64 a0_2, .bool a0_3, .int .i64 a0_4, .bool a0_5, .int .i64 a0_6, .int .i64 a0_7] 48 (0, 0)) zk hg (Kd.R_ne HO68.out BK47.out (by decide)))
           have n1_ := Qz.mk (Kd.R_after (ok := (fun _ => True)) (by refine zR ?_; exact Kd.Qw HO50.out (fun _ hk => ⟨trivial, hk⟩)) hg hat)
           have n2_ := Qz.mk (hb)
           have n3_ := Qz.mk (ho)
           clear BK47
           clear HO50
           clear HB
           clear HO68
           have BK47 := n0_
           have HO50 := n1_
           have HB := n2_
           have HO73 := n3_
           clear n0_ n1_ n2_ n3_
           clear ho hb hg hat
           refine hK.out _ _ ⟨(Qh BK47.out 0).trans rfl, (Qh BK47.out 1).trans rfl, (Qh BK47.out 2).trans rfl, (Qh BK47.out 3).trans rfl, (Qh BK47.out 4).trans rfl, (Qh BK47.out 5).trans rfl, (Qh BK47.out 6).trans rfl, (Qh BK47.out 7).trans rfl⟩ (fun hHeld => ?_)
           clear hK K
           refine norm_ (a' := ?_) ?_ ?_
           rotate_left
           ·show Act.put _ (some 18) _ = _
            simp only [Act.put, List.setIfInBounds_toArray, List.set_cons_zero, List.set_cons_succ, Qar, Qas]
            rfl
           refine zp 8 4 ?_
           refine done_ (done_of HT_.out (by kernel_rfl)) ?_
           obtain ⟨z28_0, z28_1, z28_2, z28_3, z28_4, z28_5, z28_6, z28_7, j28_0, j28_1, j28_2, j28_3, j28_4, j28_5, j28_6, j28_7⟩ := Lv.blks8 BK47.out
           try go_wp2_with (first | ((with_reducible refine gate_dst (N := 24) rfl ?_); refine Kd.R_lit (Kd.int .u8) _ 5 ?hg (N := 24) ?hd (xs := ([(a0_2) % 256, x3_5] : List Int)) (inner := [.int .u8 ((a0_2) % 256), .int .u8 x3_5]) (ok := fun _ => True) (okp := fun _ => True) ?hr ?hp (fun _ hk => hk) trivial (Below.refl _ _) (Nat.le_refl _) (by simp) ?_; (case hd => rfl); (case hg => rfl); (case hr => exact yb0); (case hp => exact (Reps.one (show Kd.M (Kd.int .u8) _ _ _ ((a0_2) % 256) [.int .u8 ((a0_2) % 256)] from rfl) (Reps.one (show Kd.M (Kd.int .u8) _ _ _ x3_5 [.int .u8 x3_5] from rfl) (Reps.none _ _)))); intro v87 w29 ho30 hb hg_ hnew_; clear hg_ hnew_; (first | rw [← Ny53.out] at ho30 | (simp only [Int.reduceToNat] at ho30; rw [← Ny53.out] at ho30)); have n0_ := Qz.mk (Kd.R_elder' (zr HO50) (Kd.Qah ho30) hb); have n1_ := Qz.mk (Kd.R_elder' (zr HO73) (Kd.Qah ho30) hb); have n2_ := Qz.mk (Kd.Qan (Kd.Qal (Kd.Qal ho30 (Kd.R_lt (zr HO50))) (Kd.R_lt (zr HO73))) (Qp zb)); have n3_ := Qz.mk (Qi (g := gb47) (o := .cells #[.int .i64 a0_0, .int .i64 a0_1, .int .i64 a0_2, .bool a0_3, .int .i64 a0_4, .bool a0_5, .int .i64 a0_6, .int .i64 a0_7] 48 (0, 0)) zk hb); have n4_ := Qz.mk (Qq zb hb); clear HO50; clear HO73; clear BK47; clear HB; have HO50 := n0_; have HO73 := n1_; have HO55 := n2_; have BK47 := n3_; have HB := n4_; clear n0_ n1_ n2_ n3_ n4_; clear hb ho30; obtain ⟨Ao32, co32, eo32⟩ := Kd.R_slice HO55.out; subst eo32) | ((with_reducible refine gate_builtin (b := .append) (xs := #[.tmp 19, .tmp 24]) rfl ?_); at_builtin; refine Kd.R_append_rows (Kd.int .u8) (w0 := w) w.heap.size rfl (.tmp 19) (.tmp 24) 22 5 (.int .u8 0) 1 rfl Try.underlying22 info5 rfl (by decide) (by omega) v82 y65 y53 _ _ _ (fun k_ => some k_ ≠ (.slice Ao27 t58.length co27 : Value).ownBlock ∧ some k_ ≠ (.slice Ao32 y53.length co32 : Value).ownBlock) (fun _ => False) rfl rfl ?aO ?aR (fun _ _ h => h) (fun _ h => h.elim) ?aF ?aB ?aS ?aL ?_; (case aR => repeat (first | exact (Kd.Qaj HO55.out).2.2 | (with_reducible first | refine Kd.Qaa ?_ _ | refine Kd.Qz ?_ _ | refine Kd.Qab ?_))); (case aB => exact zb); (case aF => exact (fun k_ hk => ⟨Kd.fresh' (Kd.R_lt (zr HO50)) k_ hk, Kd.fresh' (Kd.R_lt (zr HO55)) k_ hk⟩)); (case aO => exact (zr HO73)); (case aS => exact (Qp zb)); (case aL => have := LMc11.out; omega); intro v83 w31 ho hb hg hat; rw [← Ny61.out] at ho; have n0_ := Qz.mk (blk_grown (g := gb47) (o := .cells #[.int .i64 a0_0, .int .i64 a0_1, .int .i64 a0_2, .bool a0_3, .int .i64 a0_4, .bool a0_5, .int .i64 a0_6, .int .i64 a0_7] 48 (0, 0)) zk hg (Kd.R_ne HO73.out BK47.out (by decide))); have n1_ := Qz.mk (Kd.R_after (ok := (fun k_ => some k_ ≠ (.slice Ao32 y53.length co32 : Value).ownBlock)) (by refine zR ?_; exact Kd.Qw HO50.out (fun _ hk => ⟨hk.2, hk.1.2⟩)) hg hat); have n2_ := Qz.mk (Kd.R_after (ok := (fun k_ => some k_ ≠ (.slice Ao27 t58.length co27 : Value).ownBlock)) (by refine zR ?_; exact Kd.Qw HO55.out (fun _ hk => ⟨hk.1.2, hk.2⟩)) hg hat); have n3_ := Qz.mk (hb); have n4_ := Qz.mk (ho); clear BK47; clear HO50; clear HO55; clear HB; clear HO73; have BK47 := n0_; have HO50 := n1_; have HO55 := n2_; have HB := n3_; have HO69 := n4_; clear n0_ n1_ n2_ n3_ n4_; clear ho hb hg hat))
           have n0_ := Qz.mk (Kd.Qo HO50.out)
           have n1_ := Qz.mk (Kd.Qo HO55.out)
           have n2_ := Qz.mk (Kd.Qo HO69.out)
           have n3_ := Qz.mk (Qg BK47.out)
           have n4_ := Qz.mk (Qb HB.out)
           clear HO50
           clear HO55
           clear HO69
           clear BK47
           clear HB
           have HO50 := n0_
           have HO55 := n1_
           have HO69 := n2_
           have BK47 := n3_
           have HB := n4_
           clear n0_ n1_ n2_ n3_ n4_
           refine start_ (n := 14) (S := fun w' => w'.cell? ⟨gb47, 0, none⟩ = some (.int .i64 a0_0) ∧ w'.cell? ⟨gb47, 1, none⟩ = some (.int .i64 a0_1) ∧ w'.cell? ⟨gb47, 2, none⟩ = some (.int .i64 a0_2) ∧ w'.cell? ⟨gb47, 3, none⟩ = some (.bool a0_3) ∧ w'.cell? ⟨gb47, 4, none⟩ = some (.int .i64 a0_4) ∧ w'.cell? ⟨gb47, 5, none⟩ = some (.bool a0_5) ∧ w'.cell? ⟨gb47, 6, none⟩ = some (.int .i64 a0_6) ∧ w'.cell? ⟨gb47, 7, none⟩ = some (.int .i64 a0_7)) (ds := []) #[Z, Z, Z, Z, Z, Z, Z, Z, Z, Z, Z, Z, Z, Z] (by kernel_rfl) rfl rfl ⟨(Qh BK47.out 0).trans rfl, (Qh BK47.out 1).trans rfl, (Qh BK47.out 2).trans rfl, (Qh BK47.out 3).trans rfl, (Qh BK47.out 4).trans rfl, (Qh BK47.out 5).trans rfl, (Qh BK47.out 6).trans rfl, (Qh BK47.out 7).trans rfl⟩ (fun hHeld => ?_); refine with_tabW Zsl3Pack.tab8 Zsl3Pack.bits8 (fun HT_ HW_ => ?_)
           generalize w31.drew = w33 at HO50 HO55 HO69 BK47 HB hHeld ⊢
           refine zp 0 26 ?_; refine zp 1 27 ?_; refine zp 5 31 ?_; refine zp 9 35 ?_; refine zt 2 28 ?_; refine zt 6 32 ?_; refine zt 10 36 ?_
           refine one_ (i := 3) (N := some 29) #[Y, Y, Y, Y, Z, Y, Y, Z, Z, Y, Y, Z, Z, Z] rfl rfl (one_of HT_.out (by kernel_rfl)) (by decide) (fun K hK => ?_)
           refine goes_ Try.func94 (by kernel_rfl) rfl #[.int .i64 a0_4, .int .i64 2] (by rfl) rfl rfl zm ?_
           with_reducible refine (Zsl1Bytes.calls kj5 a0_4 2 t56 _ A12.out).mono ?_
           rintro e w34 ⟨v88, rfl, ho0, hb⟩
           refine ⟨_, rfl, ?_⟩
           have n0_ := Qz.mk (Kd.R_elder' (zr HO50) (Kd.Qah ho0) hb)
           have n1_ := Qz.mk (Kd.R_elder' (zr HO55) (Kd.Qah ho0) hb)
           have n2_ := Qz.mk (Kd.R_elder' (zr HO69) (Kd.Qah ho0) hb)
           have n3_ := Qz.mk (Kd.Qan (Kd.Qal (Kd.Qal (Kd.Qal ho0 (Kd.R_lt (zr HO50))) (Kd.R_lt (zr HO55))) (Kd.R_lt (zr HO69))) (Qp zb))
           have n4_ := Qz.mk (Qi (g := gb47) (o := .cells #[.int .i64 a0_0, .int .i64 a0_1, .int .i64 a0_2, .bool a0_3, .int .i64 a0_4, .bool a0_5, .int .i64 a0_6, .int .i64 a0_7] 48 (0, 0)) zk hb)
           have n5_ := Qz.mk (Qq zb hb)
           clear HO50
           clear HO55
           clear HO69
           clear BK47
           clear HB
           have HO50 := n0_
           have HO55 := n1_
           have HO69 := n2_
           have HO60 := n3_
           have BK47 := n4_
           have HB := n5_
           clear n0_ n1_ n2_ n3_ n4_ n5_
           (try clear hb)
           (try clear hb2)
           (try clear hk)
           (try clear hi)
           (try clear ho0)
           obtain ⟨Ao36, co36, eo36⟩ := Kd.R_slice HO60.out
           (first | subst eo36 | (injection eo36 with f1_ f2_ f3_; have f4_ := f1_.symm; have f5_ := f3_.symm; clear f1_ f2_ f3_; subst f4_; subst f5_))
           refine hK.out _ _ ⟨(Qh BK47.out 0).trans rfl, (Qh BK47.out 1).trans rfl, (Qh BK47.out 2).trans rfl, (Qh BK47.out 3).trans rfl, (Qh BK47.out 4).trans rfl, (Qh BK47.out 5).trans rfl, (Qh BK47.out 6).trans rfl, (Qh BK47.out 7).trans rfl⟩ (fun hHeld => ?_)
           clear hK K
           refine norm_ (a' := ?_) ?_ ?_
           rotate_left
           ·show Act.put _ (some 29) _ = _
            simp only [Act.put, List.setIfInBounds_toArray, List.set_cons_zero, List.set_cons_succ, Qar, Qas]
            rfl
           refine one_ (i := 4) (N := some 30) #[Y, Y, Y, Y, Y, Y, Y, Z, Z, Y, Y, Z, Z, Z] rfl rfl (one_of HT_.out (by kernel_rfl)) (by decide) (fun K hK => ?_)
           refine Kd.R_append_rows_step (Kd.int .u8) (w0 := w) w.heap.size (by rfl) (.tmp 26) (.tmp 29) 22 5 (.int .u8 0) 1 rfl Try.underlying22 info5 rfl (by decide) (by omega) v83 y61 t56 _ _ _ (fun k_ => some k_ ≠ (.slice Ao27 t58.length co27 : Value).ownBlock ∧ some k_ ≠ (.slice Ao32 y53.length co32 : Value).ownBlock ∧ some k_ ≠ (.slice Ao36 t56.length co36 : Value).ownBlock) (fun _ => False) rfl rfl ?aO ?aR (fun _ _ h => h) (fun _ h => h.elim) ?aF ?aB ?aS ?aL ?_
           (case aR => repeat (first | exact (Kd.Qaj HO60.out).2.2 | (with_reducible first | refine Kd.Qaa ?_ _ | refine Kd.Qz ?_ _ | refine Kd.Qab ?_)))
           (case aB => exact zb)
           (case aF => exact (fun k_ hk => ⟨Kd.fresh' (Kd.R_lt (zr HO50)) k_ hk, Kd.fresh' (Kd.R_lt (zr HO55)) k_ hk, Kd.fresh' (Kd.R_lt (zr HO60)) k_ hk⟩))
           (case aO => exact (by refine zR ?_; exact Kd.Qw HO69.out (fun _ hk => ⟨hk.1.1, ⟨hk.1.2, hk.2⟩⟩)))
           (case aS => exact (Qp zb))
           (case aL => have := LMc13.out; omega)
           intro v84 w35 ho hb hg hat
           rw [← Ny59.out] at ho
           have n0_ := Qz.mk (blk_grown (g := gb47) (o := .cells #[.int .i64 a0_0, .int .i64 a0_1, .int .i64 a0_2, .bool a0_3, .int .i64 a0_4, .bool a0_5, .int .i64 a0_6, .int .i64 a0_7] 48 (0, 0)) zk hg (Kd.R_ne HO69.out BK47.out (by decide)))
           have n1_ := Qz.mk (Kd.R_after (ok := (fun k_ => some k_ ≠ (.slice Ao32 y53.length co32 : Value).ownBlock ∧ some k_ ≠ (.slice Ao36 t56.length co36 : Value).ownBlock)) (by refine zR ?_; exact Kd.Qw HO50.out (fun _ hk => ⟨⟨hk.1.1, hk.2⟩, hk.1.2⟩)) hg hat)
           have n2_ := Qz.mk (Kd.R_after (ok := (fun k_ => some k_ ≠ (.slice Ao27 t58.length co27 : Value).ownBlock ∧ some k_ ≠ (.slice Ao36 t56.length co36 : Value).ownBlock)) (by refine zR ?_; exact Kd.Qw HO55.out (fun _ hk => ⟨⟨hk.1.1, hk.2⟩, hk.1.2⟩)) hg hat)
           have n3_ := Qz.mk (Kd.R_after (ok := (fun k_ => some k_ ≠ (.slice Ao27 t58.length co27 : Value).ownBlock ∧ some k_ ≠ (.slice Ao32 y53.length co32 : Value).ownBlock)) (by refine zR ?_; exact Kd.Qw HO60.out (fun _ hk => ⟨⟨hk.1.1.2, hk.1.2⟩, hk.2⟩)) hg hat)
           have n4_ := Qz.mk (hb)
           have n5_ := Qz.mk (ho)
           clear BK47
           clear HO50
           clear HO55
           clear HO60
           clear HB
           clear HO69
           have BK47 := n0_
           have HO50 := n1_
           have HO55 := n2_
           have HO60 := n3_
           have HB := n4_
           have HO74 := n5_
           clear n0_ n1_ n2_ n3_ n4_ n5_
           clear ho hb hg hat
           refine hK.out _ _ ⟨(Qh BK47.out 0).trans rfl, (Qh BK47.out 1).trans rfl, (Qh BK47.out 2).trans rfl, (Qh BK47.out 3).trans rfl, (Qh BK47.out 4).trans rfl, (Qh BK47.out 5).trans rfl, (Qh BK47.out 6).trans rfl, (Qh BK47.out 7).trans rfl⟩ (fun hHeld => ?_)
           clear hK K
           refine norm_ (a' := ?_) ?_ ?_
           rotate_left
           ·show Act.put _ (some 30) _ = _
            simp only [Act.put, List.setIfInBounds_toArray, List.set_cons_zero, List.set_cons_succ, Qar, Qas]
            rfl
           refine one_ (i := 7) (N := some 33) #[Y, Y, Y, Y, Y, Y, Y, Y, Z, Y, Y, Z, Z, Z] rfl rfl (one_of HT_.out (by kernel_rfl)) (by decide) (fun K hK => ?_)
           refine goes_ Try.func94 (by kernel_rfl) rfl #[.int .i64 a0_6, .int .i64 2] (by rfl) rfl rfl zm ?_
           with_reducible refine (Zsl1Bytes.calls kj5 a0_6 2 t54 _ A14.out).mono ?_
           rintro e w37 ⟨v89, rfl, ho0, hb⟩
           refine ⟨_, rfl, ?_⟩
           have n0_ := Qz.mk (Kd.R_elder' (zr HO50) (Kd.Qah ho0) hb)
           have n1_ := Qz.mk (Kd.R_elder' (zr HO55) (Kd.Qah ho0) hb)
           have n2_ := Qz.mk (Kd.R_elder' (zr HO60) (Kd.Qah ho0) hb)
           have n3_ := Qz.mk (Kd.R_elder' (zr HO74) (Kd.Qah ho0) hb)
           have n4_ := Qz.mk (Kd.Qan (Kd.Qal (Kd.Qal (Kd.Qal (Kd.Qal ho0 (Kd.R_lt (zr HO50))) (Kd.R_lt (zr HO55))) (Kd.R_lt (zr HO60))) (Kd.R_lt (zr HO74))) (Qp zb))
           have n5_ := Qz.mk (Qi (g := gb47) (o := .cells #[.int .i64 a0_0, .int .i64 a0_1, .int .i64 a0_2, .bool a0_3, .int .i64 a0_4, .bool a0_5, .int .i64 a0_6, .int .i64 a0_7] 48 (0, 0)) zk hb)
           have n6_ := Qz.mk (Qq zb hb)
           clear HO50
           clear HO55
           clear HO60
           clear HO74
           clear BK47
           clear HB
           have HO50 := n0_
           have HO55 := n1_
           have HO60 := n2_
           have HO74 := n3_
           have HO63 := n4_
           have BK47 := n5_
           have HB := n6_
           clear n0_ n1_ n2_ n3_ n4_ n5_ n6_
           (try clear hb)
           (try clear hb2)
           (try clear hk)
           (try clear hi)
           (try clear ho0)
           obtain ⟨Ao39, co39, eo39⟩ := Kd.R_slice HO63.out
           (first | subst eo39 | (injection eo39 with f1_ f2_ f3_; have f4_ := f1_.symm; have f5_ := f3_.symm; clear f1_ f2_ f3_; subst f4_; subst f5_))
           refine hK.out _ _ ⟨(Qh BK47.out 0).trans rfl, (Qh BK47.out 1).trans rfl, (Qh BK47.out 2).trans rfl, (Qh BK47.out 3).trans rfl, (Qh BK47.out 4).trans rfl, (Qh BK47.out 5).trans rfl, (Qh BK47.out 6).trans rfl, (Qh BK47.out 7).trans rfl⟩ (fun hHeld => ?_)
           clear hK K
           refine norm_ (a' := ?_) ?_ ?_
           rotate_left
           ·show Act.put _ (some 33) _ = _
            simp only [Act.put, List.setIfInBounds_toArray, List.set_cons_zero, List.set_cons_succ, Qar, Qas]
            rfl
           refine one_ (i := 8) (N := some 34) #[Y, Y, Y, Y, Y, Y, Y, Y, Y, Y, Y, Z, Z, Z] rfl rfl (one_of HT_.out (by kernel_rfl)) (by decide) (fun K hK => ?_)
           refine Kd.R_append_rows_step (Kd.int .u8) (w0 := w) w.heap.size (by rfl) (.tmp 30) (.tmp 33) 22 5 (.int .u8 0) 1 rfl Try.underlying22 info5 rfl (by decide) (by omega) v84 y59 t54 _ _ _ (fun k_ => some k_ ≠ (.slice Ao27 t58.length co27 : Value).ownBlock ∧ some k_ ≠ (.slice Ao32 y53.length co32 : Value).ownBlock ∧ some k_ ≠ (.slice Ao36 t56.length co36 : Value).ownBlock ∧ some k_ ≠ (.slice Ao39 t54.length co39 : Value).ownBlock) (fun _ => False) rfl rfl ?aO ?aR (fun _ _ h => h) (fun _ h => h.elim) ?aF ?aB ?aS ?aL ?_
           (case aR => repeat (first | exact (Kd.Qaj HO63.out).2.2 | (with_reducible first | refine Kd.Qaa ?_ _ | refine Kd.Qz ?_ _ | refine Kd.Qab ?_)))
           (case aB => exact zb)
           (case aF => exact (fun k_ hk => ⟨Kd.fresh' (Kd.R_lt (zr HO50)) k_ hk, Kd.fresh' (Kd.R_lt (zr HO55)) k_ hk, Kd.fresh' (Kd.R_lt (zr HO60)) k_ hk, Kd.fresh' (Kd.R_lt (zr HO63)) k_ hk⟩))
           (case aO => exact (by refine zR ?_; exact Kd.Qw HO74.out (fun _ hk => ⟨hk.1.1, ⟨hk.1.2.1, ⟨hk.1.2.2, hk.2⟩⟩⟩)))
           (case aS => exact (Qp zb))
           (case aL => have := LMc15.out; omega)
           intro v85 w38 ho hb hg hat
           rw [← Ny57.out] at ho
           have n0_ := Qz.mk (blk_grown (g := gb47) (o := .cells #[.int .i64 a0_0, .int .i64 a0_1, .int .i64 a0_2, .bool a0_3, .int .i64 a0_4, .bool a0_5, .int .i64 a0_6, .int .i64 a0_7] 48 (0, 0)) zk hg (Kd.R_ne HO74.out BK47.out (by decide)))
           have n1_ := Qz.mk (Kd.R_after (ok := (fun k_ => some k_ ≠ (.slice Ao32 y53.length co32 : Value).ownBlock ∧ some k_ ≠ (.slice Ao36 t56.length co36 : Value).ownBlock ∧ some k_ ≠ (.slice Ao39 t54.length co39 : Value).ownBlock)) (by refine zR ?_; exact Kd.Qw HO50.out (fun _ hk => ⟨⟨hk.1.1.1, ⟨hk.1.1.2, hk.2⟩⟩, hk.1.2⟩)) hg hat)
           have n2_ := Qz.mk (Kd.R_after (ok := (fun k_ => some k_ ≠ (.slice Ao27 t58.length co27 : Value).ownBlock ∧ some k_ ≠ (.slice Ao36 t56.length co36 : Value).ownBlock ∧ some k_ ≠ (.slice Ao39 t54.length co39 : Value).ownBlock)) (by refine zR ?_; exact Kd.Qw HO55.out (fun _ hk => ⟨⟨hk.1.1.1, ⟨hk.1.1.2, hk.2⟩⟩, hk.1.2⟩)) hg hat)
           have n3_ := Qz.mk (Kd.R_after (ok := (fun k_ => some k_ ≠ (.slice Ao27 t58.length co27 : Value).ownBlock ∧ some k_ ≠ (.slice Ao32 y53.length co32 : Value).ownBlock ∧ some k_ ≠ (.slice Ao39 t54.length co39 : Value).ownBlock)) (by refine zR ?_; exact Kd.Qw HO60.out (fun _ hk => ⟨⟨hk.1.1.1, ⟨hk.1.1.2, hk.2⟩⟩, hk.1.2⟩)) hg hat)
           have n4_ := Qz.mk (Kd.R_after (ok := (fun k_ => some k_ ≠ (.slice Ao27 t58.length co27 : Value).ownBlock ∧ some k_ ≠ (.slice Ao32 y53.length co32 : Value).ownBlock ∧ some k_ ≠ (.slice Ao36 t56.length co36 : Value).ownBlock)) (by refine zR ?_; exact Kd.Qw HO63.out (fun _ hk => ⟨⟨hk.1.1.1.2, ⟨hk.1.1.2, hk.1.2⟩⟩, hk.2⟩)) hg hat)
           have n5_ := Qz.mk (hb)
           have n6_ := Qz.mk (ho)
           clear BK47
           clear HO50
           clear HO55
           clear HO60
           clear HO63
           clear HB
           clear HO74
           have BK47 := n0_
           have HO50 := n1_
           have HO55 := n2_
           have HO60 := n3_
           have HO63 := n4_
           have HB := n5_
           have HO75 := n6_
           clear n0_ n1_ n2_ n3_ n4_ n5_ n6_
           clear ho hb hg hat
           refine hK.out _ _ ⟨(Qh BK47.out 0).trans rfl, (Qh BK47.out 1).trans rfl, (Qh BK47.out 2).trans rfl, (Qh BK47.out 3).trans rfl, (Qh BK47.out 4).trans rfl, (Qh BK47.out 5).trans rfl, (Qh BK47.out 6).trans rfl, (Qh BK47.out 7).trans rfl⟩ (fun hHeld => ?_)
           clear hK K
           refine norm_ (a' := ?_) ?_ ?_
           rotate_left
           ·show Act.put _ (some 34) _ = _
            simp only [Act.put, List.setIfInBounds_toArray, List.set_cons_zero, List.set_cons_succ, Qar, Qas]
            rfl
           refine one_ (i := 11) (N := some 37) #[Y, Y, Y, Y, Y, Y, Y, Y, Y, Y, Y, Y, Z, Z] rfl rfl (one_of HT_.out (by kernel_rfl)) (by decide) (fun K hK => ?_)
           refine goes_ Try.func94 (by kernel_rfl) rfl #[.int .i64 a0_7, .int .i64 2] (by rfl) rfl rfl zm ?_
           with_reducible refine (Zsl1Bytes.calls kj5 a0_7 2 t52 _ A16.out).mono ?_
           rintro e w40 ⟨v91, rfl, ho0, hb⟩
           refine ⟨_, rfl, ?_⟩
           have n0_ := Qz.mk (Kd.R_elder' (zr HO50) (Kd.Qah ho0) hb)
           have n1_ := Qz.mk (Kd.R_elder' (zr HO55) (Kd.Qah ho0) hb)
           have n2_ := Qz.mk (Kd.R_elder' (zr HO60) (Kd.Qah ho0) hb)
           have n3_ := Qz.mk (Kd.R_elder' (zr HO63) (Kd.Qah ho0) hb)
           have n4_ := Qz.mk (Kd.R_elder' (zr HO75) (Kd.Qah ho0) hb)
           have n5_ := Qz.mk (Kd.Qan (Kd.Qal (Kd.Qal (Kd.Qal (Kd.Qal (Kd.Qal ho0 (Kd.R_lt (zr HO50))) (Kd.R_lt (zr HO55))) (Kd.R_lt (zr HO60))) (Kd.R_lt (zr HO63))) (Kd.R_lt (zr HO75))) (Qp zb))
           have n6_ := Qz.mk (Qi (g := gb47) (o := .cells #[.int .i64 a0_0, .int .i64 a0_1, .int .i64 a0_2, .bool a0_3, .int .i64 a0_4, .bool a0_5, .int .i64 a0_6, .int .i64 a0_7] 48 (0, 0)) zk hb)
           have n7_ := Qz.mk (Qq zb hb)
           clear HO50
           clear HO55
           clear HO60
           clear HO63
           clear HO75
           clear BK47
           clear HB
           have HO50 := n0_
           have HO55 := n1_
           have HO60 := n2_
           have HO63 := n3_
           have HO75 := n4_
           have HO67 := n5_
           have BK47 := n6_
           have HB := n7_
           clear n0_ n1_ n2_ n3_ n4_ n5_ n6_ n7_
           (try clear hb)
           (try clear hb2)
           (try clear hk)
           (try clear hi)
           (try clear ho0)
           obtain ⟨Ao42, co42, eo42⟩ := Kd.R_slice HO67.out
           (first | subst eo42 | (injection eo42 with f1_ f2_ f3_; have f4_ := f1_.symm; have f5_ := f3_.symm; clear f1_ f2_ f3_; subst f4_; subst f5_))
           refine hK.out _ _ ⟨(Qh BK47.out 0).trans rfl, (Qh BK47.out 1).trans rfl, (Qh BK47.out 2).trans rfl, (Qh BK47.out 3).trans rfl, (Qh BK47.out 4).trans rfl, (Qh BK47.out 5).trans rfl, (Qh BK47.out 6).trans rfl, (Qh BK47.out 7).trans rfl⟩ (fun hHeld => ?_)
           clear hK K
           refine norm_ (a' := ?_) ?_ ?_
           rotate_left
           ·show Act.put _ (some 37) _ = _
            simp only [Act.put, List.setIfInBounds_toArray, List.set_cons_zero, List.set_cons_succ, Qar, Qas]
            rfl
           refine one_ (i := 12) (N := some 38) #[Y, Y, Y, Y, Y, Y, Y, Y, Y, Y, Y, Y, Y, Z] rfl rfl (one_of HT_.out (by kernel_rfl)) (by decide) (fun K hK => ?_)
           refine Kd.R_append_rows_step (Kd.int .u8) (w0 := w) w.heap.size (by rfl) (.tmp 34) (.tmp 37) 22 5 (.int .u8 0) 1 rfl Try.underlying22 info5 rfl (by decide) (by omega) v85 y57 t52 _ _ _ (fun k_ => some k_ ≠ (.slice Ao27 t58.length co27 : Value).ownBlock ∧ some k_ ≠ (.slice Ao32 y53.length co32 : Value).ownBlock ∧ some k_ ≠ (.slice Ao36 t56.length co36 : Value).ownBlock ∧ some k_ ≠ (.slice Ao39 t54.length co39 : Value).ownBlock ∧ some k_ ≠ (.slice Ao42 t52.length co42 : Value).ownBlock) (fun _ => False) rfl rfl ?aO ?aR (fun _ _ h => h) (fun _ h => h.elim) ?aF ?aB ?aS ?aL ?_
           (case aR => repeat (first | exact (Kd.Qaj HO67.out).2.2 | (with_reducible first | refine Kd.Qaa ?_ _ | refine Kd.Qz ?_ _ | refine Kd.Qab ?_)))
           (case aB => exact zb)
           (case aF => exact (fun k_ hk => ⟨Kd.fresh' (Kd.R_lt (zr HO50)) k_ hk, Kd.fresh' (Kd.R_lt (zr HO55)) k_ hk, Kd.fresh' (Kd.R_lt (zr HO60)) k_ hk, Kd.fresh' (Kd.R_lt (zr HO63)) k_ hk, Kd.fresh' (Kd.R_lt (zr HO67)) k_ hk⟩))
           (case aO => exact (by refine zR ?_; exact Kd.Qw HO75.out (fun _ hk => ⟨hk.1.1, ⟨hk.1.2.1, ⟨hk.1.2.2.1, ⟨hk.1.2.2.2, hk.2⟩⟩⟩⟩)))
           (case aS => exact (Qp zb))
           (case aL => have := LMc17.out; omega)
           intro v92 w41 ho hb hg hat
           rw [← Ny49.out] at ho
           have n0_ := Qz.mk (blk_grown (g := gb47) (o := .cells #[.int .i64 a0_0, .int .i64 a0_1, .int .i64 a0_2, .bool a0_3, .int .i64 a0_4, .bool a0_5, .int .i64 a0_6, .int .i64 a0_7] 48 (0, 0)) zk hg (Kd.R_ne HO75.out BK47.out (by decide)))
           have n1_ := Qz.mk (Kd.R_after (ok := (fun k_ => some k_ ≠ (.slice Ao32 y53.length co32 : Value).ownBlock ∧ some k_ ≠ (.slice Ao36 t56.length co36 : Value).ownBlock ∧ some k_ ≠ (.slice Ao39 t54.length co39 : Value).ownBlock ∧ some k_ ≠ (.slice Ao42 t52.length co42 : Value).ownBlock)) (by refine zR ?_; exact Kd.Qw HO50.out (fun _ hk => ⟨⟨hk.1.1.1, ⟨hk.1.1.2.1, ⟨hk.1.1.2.2, hk.2⟩⟩⟩, hk.1.2⟩)) hg hat)
           have n2_ := Qz.mk (Kd.R_after (ok := (fun k_ => some k_ ≠ (.slice Ao27 t58.length co27 : Value).ownBlock ∧ some k_ ≠ (.slice Ao36 t56.length co36 : Value).ownBlock ∧ some k_ ≠ (.slice Ao39 t54.length co39 : Value).ownBlock ∧ some k_ ≠ (.slice Ao42 t52.length co42 : Value).ownBlock)) (by refine zR ?_; exact Kd.Qw HO55.out (fun _ hk => ⟨⟨hk.1.1.1, ⟨hk.1.1.2.1, ⟨hk.1.1.2.2, hk.2⟩⟩⟩, hk.1.2⟩)) hg hat)
           have n3_ := Qz.mk (Kd.R_after (ok := (fun k_ => some k_ ≠ (.slice Ao27 t58.length co27 : Value).ownBlock ∧ some k_ ≠ (.slice Ao32 y53.length co32 : Value).ownBlock ∧ some k_ ≠ (.slice Ao39 t54.length co39 : Value).ownBlock ∧ some k_ ≠ (.slice Ao42 t52.length co42 : Value).ownBlock)) (by refine zR ?_; exact Kd.Qw HO60.out (fun _ hk => ⟨⟨hk.1.1.1, ⟨hk.1.1.2.1, ⟨hk.1.1.2.2, hk.2⟩⟩⟩, hk.1.2⟩)) hg hat)
           have n4_ := Qz.mk (Kd.R_after (ok := (fun k_ => some k_ ≠ (.slice Ao27 t58.length co27 : Value).ownBlock ∧ some k_ ≠ (.slice Ao32 y53.length co32 : Value).ownBlock ∧ some k_ ≠ (.slice Ao36 t56.length co36 : Value).ownBlock ∧ some k_ ≠ (.slice Ao42 t52.length co42 : Value).ownBlock)) (by refine zR ?_; exact Kd.Qw HO63.out (fun _ hk => ⟨⟨hk.1.1.1, ⟨hk.1.1.2.1, ⟨hk.1.1.2.2, hk.2⟩⟩⟩, hk.1.2⟩)) hg hat)
           have n5_ := Qz.mk (Kd.R_after (ok := (fun k_ => some k_ ≠ (.slice Ao27 t58.length co27 : Value).ownBlock ∧ some k_ ≠ (.slice Ao32 y53.length co32 : Value).ownBlock ∧ some k_ ≠ (.slice Ao36 t56.length co36 : Value).ownBlock ∧ some k_ ≠ (.slice Ao39 t54.length co39 : Value).ownBlock)) (by refine zR ?_; exact Kd.Qw HO67.out (fun _ hk => ⟨⟨hk.1.1.1.1.2, ⟨hk.1.1.1.2, ⟨hk.1.1.2, hk.1.2⟩⟩⟩, hk.2⟩)) hg hat)
           have n6_ := Qz.mk (hb)
           have n7_ := Qz.mk (ho)
           clear BK47
           clear HO50
           clear HO55
           clear HO60
           clear HO63
           clear HO67
           clear HB
           clear HO75
           have BK47 := n0_
           have HO50 := n1_
           have HO55 := n2_
           have HO60 := n3_
           have HO63 := n4_
           have HO67 := n5_
           have HB := n6_
           have HO70 := n7_
           clear n0_ n1_ n2_ n3_ n4_ n5_ n6_ n7_
           clear ho hb hg hat
           refine hK.out _ _ ⟨(Qh BK47.out 0).trans rfl, (Qh BK47.out 1).trans rfl, (Qh BK47.out 2).trans rfl, (Qh BK47.out 3).trans rfl, (Qh BK47.out 4).trans rfl, (Qh BK47.out 5).trans rfl, (Qh BK47.out 6).trans rfl, (Qh BK47.out 7).trans rfl⟩ (fun hHeld => ?_)
           clear hK K
           refine norm_ (a' := ?_) ?_ ?_
           rotate_left
           ·show Act.put _ (some 38) _ = _
            simp only [Act.put, List.setIfInBounds_toArray, List.set_cons_zero, List.set_cons_succ, Qar, Qas]
            rfl
           refine zp 13 4 ?_
           refine done_ (done_of HT_.out (by kernel_rfl)) ?_
           obtain ⟨Ao43, co43, eo43⟩ := Kd.R_slice HO70.out
           subst eo43
           try go_wp2_with (first | ((with_reducible refine gate_callee (f := 95) rfl ?_); refine Qat (some 41) rfl rfl Try.func95 (by kernel_rfl) rfl #[.slice Ao43 y49.length co43] rfl zm ?_; (with_reducible refine (ZsSumBytes.calls kj5 _ _ y49 t62 _ ?side1 ?side2 A18.out).mono ?_); (case side1 => exact zc (Kd.Qaj HO70.out).2.2); (case side2 => exact (Kd.Qaj HO70.out).2.1); rintro e w' ⟨rfl, ⟨nd, rfl⟩⟩; refine ⟨_, rfl, ?_⟩) | ((with_reducible refine gate_callee (f := 94) rfl ?_); refine Qat (some 42) rfl rfl Try.func94 (by kernel_rfl) rfl #[.int .i64 t62, .int .i64 2] rfl zm ?_; (with_reducible refine (Zsl1Bytes.calls kj5 t62 2 t51 _ A19.out).mono ?_); rintro e w44 ⟨v93, rfl, ho0, hb⟩; refine ⟨_, rfl, ?_⟩; have n0_ := Qz.mk (Kd.R_elder' (zr HO50) (Kd.Qah ho0) hb); have n1_ := Qz.mk (Kd.R_elder' (zr HO55) (Kd.Qah ho0) hb); have n2_ := Qz.mk (Kd.R_elder' (zr HO60) (Kd.Qah ho0) hb); have n3_ := Qz.mk (Kd.R_elder' (zr HO63) (Kd.Qah ho0) hb); have n4_ := Qz.mk (Kd.R_elder' (zr HO67) (Kd.Qah ho0) hb); have n5_ := Qz.mk (Kd.R_elder' (zr HO70) (Kd.Qah ho0) hb); have n6_ := Qz.mk (Kd.Qan (Kd.Qal (Kd.Qal (Kd.Qal (Kd.Qal (Kd.Qal (Kd.Qal ho0 (Kd.R_lt (zr HO50))) (Kd.R_lt (zr HO55))) (Kd.R_lt (zr HO60))) (Kd.R_lt (zr HO63))) (Kd.R_lt (zr HO67))) (Kd.R_lt (zr HO70))) (Qp zb)); have n7_ := Qz.mk (Qi (g := gb47) (o := .cells #[.int .i64 a0_0, .int .i64 a0_1, .int .i64 a0_2, .bool a0_3, .int .i64 a0_4, .bool a0_5, .int .i64 a0_6, .int .i64 a0_7] 48 (0, 0)) zk hb); have n8_ := Qz.mk (Qq zb hb); clear HO50; clear HO55; clear HO60; clear HO63; clear HO67; clear HO70; clear BK47; clear HB; have HO50 := n0_; have HO55 := n1_; have HO60 := n2_; have HO63 := n3_; have HO67 := n4_; have HO70 := n5_; have HO77 := n6_; have BK47 := n7_; have HB := n8_; clear n0_ n1_ n2_ n3_ n4_ n5_ n6_ n7_ n8_; (try clear hb); (try clear hb2); (try clear hk); (try clear hi); (try clear ho0); obtain ⟨Ao46, co46, eo46⟩ := Kd.R_slice HO77.out; subst eo46) | ((with_reducible refine gate_builtin (b := .append) (xs := #[.tmp 39, .tmp 42]) rfl ?_); at_builtin; refine Kd.R_append_rows (Kd.int .u8) (w0 := w) w.heap.size rfl (.tmp 39) (.tmp 42) 22 5 (.int .u8 0) 1 rfl Try.underlying22 info5 rfl (by decide) (by omega) (.slice Ao43 y49.length co43) y49 t51 _ _ _ (fun k_ => some k_ ≠ (.slice Ao27 t58.length co27 : Value).ownBlock ∧ some k_ ≠ (.slice Ao32 y53.length co32 : Value).ownBlock ∧ some k_ ≠ (.slice Ao36 t56.length co36 : Value).ownBlock ∧ some k_ ≠ (.slice Ao39 t54.length co39 : Value).ownBlock ∧ some k_ ≠ (.slice Ao42 t52.length co42 : Value).ownBlock ∧ some k_ ≠ (.slice Ao46 t51.length co46 : Value).ownBlock) (fun _ => False) rfl rfl ?aO ?aR (fun _ _ h => h) (fun _ h => h.elim) ?aF ?aB ?aS ?aL ?_; (case aR => repeat (first | exact (Kd.Qaj HO77.out).2.2 | (with_reducible first | refine Kd.Qaa ?_ _ | refine Kd.Qz ?_ _ | refine Kd.Qab ?_))); (case aB => exact zb); (case aF => exact (fun k_ hk => ⟨Kd.fresh' (Kd.R_lt (zr HO50)) k_ hk, Kd.fresh' (Kd.R_lt (zr HO55)) k_ hk, Kd.fresh' (Kd.R_lt (zr HO60)) k_ hk, Kd.fresh' (Kd.R_lt (zr HO63)) k_ hk, Kd.fresh' (Kd.R_lt (zr HO67)) k_ hk, Kd.fresh' (Kd.R_lt (zr HO77)) k_ hk⟩)); (case aO => exact (by refine zR ?_; exact Kd.Qw HO70.out (fun _ hk => ⟨hk.1.1, ⟨hk.1.2.1, ⟨hk.1.2.2.1, ⟨hk.1.2.2.2.1, ⟨hk.1.2.2.2.2, hk.2⟩⟩⟩⟩⟩))); (case aS => exact (Qp zb)); (case aL => have := LMc20.out; omega); intro v96 w45 ho hb hg hat; rw [← Ny71.out] at ho; have n0_ := Qz.mk (blk_grown (g := gb47) (o := .cells #[.int .i64 a0_0, .int .i64 a0_1, .int .i64 a0_2, .bool a0_3, .int .i64 a0_4, .bool a0_5, .int .i64 a0_6, .int .i64 a0_7] 48 (0, 0)) zk hg (Kd.R_ne HO70.out BK47.out (by decide))); have n1_ := Qz.mk (Kd.R_after (ok := (fun k_ => some k_ ≠ (.slice Ao32 y53.length co32 : Value).ownBlock ∧ some k_ ≠ (.slice Ao36 t56.length co36 : Value).ownBlock ∧ some k_ ≠ (.slice Ao39 t54.length co39 : Value).ownBlock ∧ some k_ ≠ (.slice Ao42 t52.length co42 : Value).ownBlock ∧ some k_ ≠ (.slice Ao46 t51.length co46 : Value).ownBlock)) (by refine zR ?_; exact Kd.Qw HO50.out (fun _ hk => ⟨⟨hk.1.1.1, ⟨hk.1.1.2.1, ⟨hk.1.1.2.2.1, ⟨hk.1.1.2.2.2, hk.2⟩⟩⟩⟩, hk.1.2⟩)) hg hat); have n2_ := Qz.mk (Kd.R_after (ok := (fun k_ => some k_ ≠ (.slice Ao27 t58.length co27 : Value).ownBlock ∧ some k_ ≠ (.slice Ao36 t56.length co36 : Value).ownBlock ∧ some k_ ≠ (.slice Ao39 t54.length co39 : Value).ownBlock ∧ some k_ ≠ (.slice Ao42 t52.length co42 : Value).ownBlock ∧ some k_ ≠ (.slice Ao46 t51.length co46 : Value).ownBlock)) (by refine zR ?_; exact Kd.Qw HO55.out (fun _ hk => ⟨⟨hk.1.1.1, ⟨hk.1.1.2.1, ⟨hk.1.1.2.2.1, ⟨hk.1.1.2.2.2, hk.2⟩⟩⟩⟩, hk.1.2⟩)) hg hat); have n3_ := Qz.mk (Kd.R_after (ok := (fun k_ => some k_ ≠ (.slice Ao27 t58.length co27 : Value).ownBlock ∧ some k_ ≠ (.slice Ao32 y53.length co32 : Value).ownBlock ∧ some k_ ≠ (.slice Ao39 t54.length co39 : Value).ownBlock ∧ some k_ ≠ (.slice Ao42 t52.length co42 : Value).ownBlock ∧ some k_ ≠ (.slice Ao46 t51.length co46 : Value).ownBlock)) (by refine zR ?_; exact Kd.Qw HO60.out (fun _ hk => ⟨⟨hk.1.1.1, ⟨hk.1.1.2.1, ⟨hk.1.1.2.2.1, ⟨hk.1.1.2.2.2, hk.2⟩⟩⟩⟩, hk.1.2⟩)) hg hat); have n4_ := Qz.mk (Kd.R_after (ok := (fun k_ => some k_ ≠ (.slice Ao27 t58.length co27 : Value).ownBlock ∧ some k_ ≠ (.slice Ao32 y53.length co32 : Value).ownBlock ∧ some k_ ≠ (.slice Ao36 t56.length co36 : Value).ownBlock ∧ some k_ ≠ (.slice Ao42 t52.length co42 : Value).ownBlock ∧ some k_ ≠ (.slice Ao46 t51.length co46 : Value).ownBlock)) (by refine zR ?_; exact Kd.Qw HO63.out (fun _ hk => ⟨⟨hk.1.1.1, ⟨hk.1.1.2.1, ⟨hk.1.1.2.2.1, ⟨hk.1.1.2.2.2, hk.2⟩⟩⟩⟩, hk.1.2⟩)) hg hat); have n5_ := Qz.mk (Kd.R_after (ok := (fun k_ => some k_ ≠ (.slice Ao27 t58.length co27 : Value).ownBlock ∧ some k_ ≠ (.slice Ao32 y53.length co32 : Value).ownBlock ∧ some k_ ≠ (.slice Ao36 t56.length co36 : Value).ownBlock ∧ some k_ ≠ (.slice Ao39 t54.length co39 : Value).ownBlock ∧ some k_ ≠ (.slice Ao46 t51.length co46 : Value).ownBlock)) (by refine zR ?_; exact Kd.Qw HO67.out (fun _ hk => ⟨⟨hk.1.1.1, ⟨hk.1.1.2.1, ⟨hk.1.1.2.2.1, ⟨hk.1.1.2.2.2, hk.2⟩⟩⟩⟩, hk.1.2⟩)) hg hat); have n6_ := Qz.mk (Kd.R_after (ok := (fun k_ => some k_ ≠ (.slice Ao27 t58.length co27 : Value).ownBlock ∧ some k_ ≠ (.slice Ao32 y53.length co32 : Value).ownBlock ∧ some k_ ≠ (.slice Ao36 t56.length co36 : Value).ownBlock ∧ some k_ ≠ (.slice Ao39 t54.length co39 : Value).ownBlock ∧ some k_ ≠ (.slice Ao42 t52.length co42 : Value).ownBlock)) (by refine zR ?_; exact Kd.Qw HO77.out (fun _ hk => ⟨⟨hk.1.1.1.1.1.2, ⟨hk.1.1.1.1.2, ⟨hk.1.1.1.2, ⟨hk.1.1.2, hk.1.2⟩⟩⟩⟩, hk.2⟩)) hg hat); have n7_ := Qz.mk (hb); have n8_ := Qz.mk (ho); clear BK47; clear HO50; clear HO55; clear HO60; clear HO63; clear HO67; clear HO77; clear HB; clear HO70; have BK47 := n0_; have HO50 := n1_; have HO55 := n2_; have HO60 := n3_; have HO63 := n4_; have HO67 := n5_; have HO77 := n6_; have HB := n7_; have HO86 := n8_; clear n0_ n1_ n2_ n3_ n4_ n5_ n6_ n7_ n8_; clear ho hb hg hat))
           go_ret
           exact ⟨_, ze, by refine zR ?_; exact Kd.Qw HO86.out (fun _ hk => trivial), zb⟩
          rw [if_neg c20] at H
          exact absurd H (by simp)
         rw [if_neg c17] at H
         exact absurd H (by simp)
        rw [if_neg c15] at H
        exact absurd H (by simp)
       rw [if_neg c13] at H
       exact absurd H (by simp)
      rw [if_neg c11] at H
      exact absurd H (by simp)
     rw [if_neg c10] at H
     exact absurd H (by simp)
end Go.Proofs.Ythagppmaofcllaa.P
