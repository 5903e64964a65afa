-- Printed by this session's own program over the kit's print (wip/tools/mp.py). Not trusted: Lean checks it.
import Derived.Test.YthagppmaofcllaaP0
import Derived.Test.YthagppmaofcllaaPDadefgh0
import Derived.Test.YthagppmaofcllaaPDall0
import Derived.Test.YthagppmaofcllaaPDcg0
import Derived.Test.YthagppmaofcllaaPDm0
namespace Go.Proofs.Ythagppmaofcllaa.P
open Go.RowKit Go.Proofs.YthagppmaofcllaaW.PrintWords Go.Proofs.YthagppmaofcllaaW.PrintLast Go.Proofs.YthagppmaofcllaaW.PrintMore
attribute [local go_sem] max2_int min2_int max_two min_two max_three min_three max_four min_four   -- for this text's walks alone
set_option linter.unusedVariables false
set_option linter.unusedSimpArgs false

/-! ### laws_eqRecsResult: function 31 -/
def laws_eqRecsResult.f (k : Nat) (a0_0 : Int) (a0_1 : Int) (l0_2 : List (S48)) (a1_0 : Int) (a1_1 : Int) (l1_2 : List (S48)) : Option (Bool) := if a0_0 = a1_0 then (if a0_1 = a1_1 then ((laws_eqRecS.f k l0_2 l1_2).bind fun t694 => (if t694 = true then (some true) else (some false))) else (some false)) else (some false)

/-! ### laws_markRecsResult: function 34 -/
def laws_markRecsResult.f (k : Nat) (a0_0 : Int) (a0_1 : Int) (l0_2 : List (S48)) (a1 : Int) : Option (Int × (List (S48))) := (laws_markRecS.f k l0_2 a1).bind fun bt697 => (some (bt697.1, bt697.2))

/-! ### laws_heldRecS: function 69 -/
def laws_heldRecS.l0 : Nat → List (S48) → Int → Int → Option (Int)
  | 0, _, _, _ => none
  | k + 1, x0, x1, x5 => if x5 < (x0.length : Int) then (if 0 ≤ x5 then (if ((rd_T48 x0 x5).f0) = x1 then (if ((rd_T48 x0 x5).f1) = (wrap64 (x1 + 1)) then (if ((rd_T48 x0 x5).f2) = (wrap64 ((wrap64 (x1 + 1)) + 1)) then (if (((rd_T48 x0 x5).f3) != ((Int.tmod (wrap64 ((wrap64 ((wrap64 (x1 + 1)) + 1)) + 1)) 3) == 0)) = true then (some (-1)) else (if ((rd_T48 x0 x5).f4) = (wrap64 ((wrap64 ((wrap64 ((wrap64 (x1 + 1)) + 1)) + 1)) + 1)) then (if (((rd_T48 x0 x5).f5) != ((Int.tmod (wrap64 ((wrap64 ((wrap64 ((wrap64 ((wrap64 (x1 + 1)) + 1)) + 1)) + 1)) + 1)) 3) == 0)) = true then (some (-1)) else (if ((rd_T48 x0 x5).f6) = (wrap64 ((wrap64 ((wrap64 ((wrap64 ((wrap64 ((wrap64 (x1 + 1)) + 1)) + 1)) + 1)) + 1)) + 1)) then (if ((rd_T48 x0 x5).f7) = (wrap64 ((wrap64 ((wrap64 ((wrap64 ((wrap64 ((wrap64 ((wrap64 (x1 + 1)) + 1)) + 1)) + 1)) + 1)) + 1)) + 1)) then (laws_heldRecS.l0 k x0 (wrap64 ((wrap64 ((wrap64 ((wrap64 ((wrap64 ((wrap64 ((wrap64 ((wrap64 (x1 + 1)) + 1)) + 1)) + 1)) + 1)) + 1)) + 1)) + 1)) (wrap64 (x5 + 1))) else (some (-1))) else (some (-1)))) else (some (-1)))) else (some (-1))) else (some (-1))) else (some (-1))) else (none)) else (some x1)
def laws_heldRecS.f (k : Nat) (l0 : List (S48)) (a1 : Int) : Option (Int) := laws_heldRecS.l0 k l0 a1 0

/-! ### laws_heldRecsResult: function 35 -/
def laws_heldRecsResult.f (k : Nat) (a0_0 : Int) (a0_1 : Int) (l0_2 : List (S48)) (a1 : Int) : Option (Int) := (laws_heldRecS.f k l0_2 a1).bind fun t708 => (if t708 < 0 then (some (-1)) else (some t708))

/-! ### laws_eqLogResult: function 38 -/
def laws_eqLogResult.f (k : Nat) (a0_0 : Int) (a0_1 : Int) (l0_2 : List Int) (l0_3 : List Int) (a1_0 : Int) (a1_1 : Int) (l1_2 : List Int) (l1_3 : List Int) : Option (Bool) := if a0_0 = a1_0 then (if a0_1 = a1_1 then ((laws_eqLog.f k l0_2 l0_3 l1_2 l1_3).bind fun t775 => (if t775 = true then (some true) else (some false))) else (some false)) else (some false)

/-! ### laws_markLogResult: function 40 -/
def laws_markLogResult.f (k : Nat) (a0_0 : Int) (a0_1 : Int) (l0_2 : List Int) (l0_3 : List Int) (a1 : Int) : Option (Int × List Int × List Int) := (laws_markLog.f k l0_2 l0_3 a1).bind fun bt782 => (some (bt782.1, bt782.2.1, bt782.2.2))

/-! ### laws_heldByteS: function 91 -/
def laws_heldByteS.l0 : Nat → List Int → Int → Int → Option (Int)
  | 0, _, _, _ => none
  | k + 1, x0, x1, x5 => if x5 < (x0.length : Int) then (if 0 ≤ x5 then (if (rd x0 x5) = ((x1) % 256) then (laws_heldByteS.l0 k x0 (wrap64 (x1 + 1)) (wrap64 (x5 + 1))) else (some (-1))) else (none)) else (some x1)
def laws_heldByteS.f (k : Nat) (l0 : List Int) (a1 : Int) : Option (Int) := laws_heldByteS.l0 k l0 a1 0

/-! ### laws_heldLog: function 73 -/
def laws_heldLog.f (k : Nat) (l0_0 : List Int) (l0_1 : List Int) (a1 : Int) : Option (Int) := (laws_heldByteS.f k l0_0 a1).bind fun t787 => (if t787 < 0 then (some (-1)) else ((laws_heldByteS.f k l0_1 t787).bind fun t788 => (if t788 < 0 then (some (-1)) else (some t788))))

/-! ### laws_heldLogResult: function 41 -/
def laws_heldLogResult.f (k : Nat) (a0_0 : Int) (a0_1 : Int) (l0_2 : List Int) (l0_3 : List Int) (a1 : Int) : Option (Int) := (laws_heldLog.f k l0_2 l0_3 a1).bind fun t790 => (if t790 < 0 then (some (-1)) else (some t790))

/-! ### spec_l3Flush: function 71 -/
def spec_l3Flush.f (l0_0 : List Int) (l0_1 : List Int) : Option (List Int × List Int) := (spec_l3All.f l0_0 l0_1).bind fun t752 => (some (t752, ([] : List Int)))

/-! ### spec_l3Crash: function 75 -/
def spec_l3Crash.f (k : Nat) (l0_0 : List Int) (l0_1 : List Int) (a1 : Int) : Option (List Int × List Int) := (some (([] : List Int) : List Int)).bind fun y859 => (if y859.length + l0_0.length < 140737488355328 then ((some (y859 ++ l0_0 : List Int)).bind fun y862 => (if 0 ≤ a1 then (if a1 ≤ (l0_1.length : Int) then (if y862.length + (l0_1.take (a1 : Int).toNat).length < 140737488355328 then ((some (y862 ++ (l0_1.take (a1 : Int).toNat) : List Int)).bind fun y866 => ((spec_l3Recs.f k y866).bind fun bt869 => ((some (([] : List Int) : List Int)).bind fun y873 => (if 0 ≤ bt869.2 then (if bt869.2 ≤ (y866.length : Int) then ((some (y866.take (bt869.2 : Int).toNat : List Int)).bind fun y876 => (if y873.length + y876.length < 140737488355328 then (some ((y873 ++ y876), ([] : List Int))) else (none))) else (none)) else (none))))) else (none)) else (none)) else (none))) else (none))

/-! ### spec_CrashLog: function 42 -/
def spec_CrashLog.f (k : Nat) (l0_0 : List Int) (l0_1 : List Int) (a1 : Int) : Option (Int × Int × List Int × List Int) := (spec_LogFault.f k l0_0 l0_1).bind fun t885 => (if t885 = 0 then ((spec_l1In.f a1 0 (l0_1.length : Int)).bind fun t886 => (if t886 = true then ((spec_l3Crash.f k l0_0 l0_1 a1).bind fun bt887 => ((spec_l3Count.f bt887.1 bt887.2).bind fun t894 => (some (0, t894, bt887.1, bt887.2)))) else (some (3, 0, ([] : List Int), ([] : List Int))))) else (some (t885, 0, ([] : List Int), ([] : List Int))))

/-! ### impl_CrashLog: function 43 -/
mutual
def impl_CrashLog.j0 : Nat → Int → Int → Bool → List Int → List Int → Option (Int × Int × List Int × List Int)
  | 0, _, _, _, _, _ => none
  | k + 1, x1, x5, x19, x896000, x896001 => if x19 = true then (impl_CrashLog.j1 k x1 3 x896000 x896001) else (impl_CrashLog.j1 k x1 x5 x896000 x896001)
def impl_CrashLog.j1 : Nat → Int → Int → List Int → List Int → Option (Int × Int × List Int × List Int)
  | 0, _, _, _, _ => none
  | k + 1, x1, x5, x896000, x896001 => if x5 = 0 then (if 0 ≤ x1 then (if x1 ≤ (x896001.length : Int) then ((slices_Concat_byte.f k (([x896000, (x896001.take (x1 : Int).toNat)] : List (List Int)))).bind fun t907 => ((impl_unpack.f k t907).bind fun t910 => (if 0 ≤ (wrap64 (13 * (t910.length : Int))) then (if (wrap64 (13 * (t910.length : Int))) ≤ (t907.length : Int) then ((some (t907.take ((wrap64 (13 * (t910.length : Int))) : Int).toNat : List Int)).bind fun y913 => ((impl_Log_count.f y913 ([] : List Int)).bind fun t917 => (some (0, t917, y913, ([] : List Int))))) else (none)) else (none)))) else (none)) else (none)) else (some (x5, 0, ([] : List Int), ([] : List Int)))
end
def impl_CrashLog.f (k : Nat) (l0_0 : List Int) (l0_1 : List Int) (a1 : Int) : Option (Int × Int × List Int × List Int) := (impl_LogFault.f k l0_0 l0_1).bind fun t897 => (if t897 = 0 then ((impl_within.f a1 0 (l0_1.length : Int)).bind fun t898 => (impl_CrashLog.j0 k a1 t897 (!t898) l0_0 l0_1)) else (impl_CrashLog.j0 k a1 t897 false l0_0 l0_1))

/-! ### impl_RecsOf: function 45 -/
def impl_RecsOf.f (k : Nat) (l0_0 : List Int) (l0_1 : List Int) : Option (Int × Int × (List (S48))) := (impl_LogFault.f k l0_0 l0_1).bind fun t1082 => (if t1082 = 0 then ((impl_Log_all.f k l0_0 l0_1).bind fun t1083 => ((impl_UnpackRecs.f k t1083).bind fun bt1086 => (some (bt1086.1, bt1086.2.1, bt1086.2.2)))) else (some (t1082, 0, ([] : List (S48)))))

/-! ### spec_RecsOf: function 46 -/
def spec_RecsOf.f (k : Nat) (l0_0 : List Int) (l0_1 : List Int) : Option (Int × Int × (List (S48))) := (spec_LogFault.f k l0_0 l0_1).bind fun t1093 => (if t1093 = 0 then ((spec_l3All.f l0_0 l0_1).bind fun t1094 => ((spec_UnpackRecs.f k t1094).bind fun bt1097 => (some (bt1097.1, bt1097.2.1, bt1097.2.2)))) else (some (t1093, 0, ([] : List (S48)))))

/-! ### laws_FnExactLogFault: function 3 -/
def laws_FnExactLogFault.f (k : Nat) (l0_0 : List Int) (l0_1 : List Int) : Option (Bool) := (laws_szLog.f l0_0 l0_1 1048576).bind fun t355 => (if t355 < 0 then (some true) else ((laws_toLog.f k l0_0 l0_1).bind fun bt356 => ((spec_LogFault.f k bt356.1 bt356.2).bind fun t362 => ((laws_toLog.f k l0_0 l0_1).bind fun bt363 => ((impl_LogFault.f k bt363.1 bt363.2).bind fun t370 => (if t370 = t362 then ((laws_toLog.f k l0_0 l0_1).bind fun bt371 => ((laws_eqLog.f k bt363.1 bt363.2 bt371.1 bt371.2).bind fun t377 => (if t377 = true then (some true) else (some false)))) else (some false)))))))

/-! ### laws_szRecS: function 16 -/
def laws_szRecS.f (l0 : List (S78)) (a1 : Int) : Option (Int) := if (wrap64 (a1 - (l0.length : Int))) < 0 then (some (-1)) else (some (wrap64 (a1 - (l0.length : Int))))

/-! ### laws_toRec: function 55 -/
def laws_toRec.f (a0_0 : Int) (a0_1 : Int) (a0_2 : Int) (a0_3 : Bool) (a0_4 : Int) (a0_5 : Bool) (a0_6 : Int) (a0_7 : Int) : Option (Int × Int × Int × Bool × Int × Bool × Int × Int) := some (a0_0, a0_1, a0_2, a0_3, a0_4, a0_5, a0_6, a0_7)

/-! ### laws_toRecS: function 18 -/
def laws_toRecS.l0 : Nat → List (S78) → List (S48) → Int → Option ((List (S48)))
  | 0, _, _, _ => none
  | k + 1, x0, x3, x4 => if x4 < (x0.length : Int) then (if 0 ≤ x4 then ((laws_toRec.f ((rd_T78 x0 x4).f0) ((rd_T78 x0 x4).f1) ((rd_T78 x0 x4).f2) ((rd_T78 x0 x4).f3) ((rd_T78 x0 x4).f4) ((rd_T78 x0 x4).f5) ((rd_T78 x0 x4).f6) ((rd_T78 x0 x4).f7)).bind fun bt412 => (if x4 < (x3.length : Int) then (laws_toRecS.l0 k x0 (x3.set (x4 : Int).toNat (⟨bt412.1, bt412.2.1, bt412.2.2.1, bt412.2.2.2.1, bt412.2.2.2.2.1, bt412.2.2.2.2.2.1, bt412.2.2.2.2.2.2.1, bt412.2.2.2.2.2.2.2⟩ : S48)) (wrap64 (x4 + 1))) else (none))) else (none)) else (some x3)
def laws_toRecS.f (k : Nat) (l0 : List (S78)) : Option ((List (S48))) := if 0 ≤ (l0.length : Int) then (if ((l0.length : Int) : Int).toNat ≤ 4398046511104 then (laws_toRecS.l0 k l0 (List.replicate ((l0.length : Int) : Int).toNat z48) 0) else (none)) else (none)

/-! ### laws_eqInt64S: function 59 -/
def laws_eqInt64S.l0 : Nat → List Int → List Int → Int → Option (Bool)
  | 0, _, _, _ => none
  | k + 1, x0, x1, x5 => if x5 < (x0.length : Int) then (if 0 ≤ x5 then (if x5 < (x1.length : Int) then (if (rd x0 x5) = (rd x1 x5) then (laws_eqInt64S.l0 k x0 x1 (wrap64 (x5 + 1))) else (some false)) else (none)) else (none)) else (some true)
def laws_eqInt64S.f (k : Nat) (l0 : List Int) (l1 : List Int) : Option (Bool) := if (l0.length : Int) = (l1.length : Int) then (laws_eqInt64S.l0 k l0 l1 0) else (some false)

/-! ### laws_eqIntsResult: function 20 -/
def laws_eqIntsResult.f (k : Nat) (a0_0 : Int) (l0_1 : List Int) (a1_0 : Int) (l1_1 : List Int) : Option (Bool) := if a0_0 = a1_0 then ((laws_eqInt64S.f k l0_1 l1_1).bind fun t434 => (if t434 = true then (some true) else (some false))) else (some false)

/-! ### laws_markInt64S: function 61 -/
def laws_markInt64S.l0 : Nat → List Int → Int → Int → Option (Int × List Int)
  | 0, _, _, _ => none
  | k + 1, x0, x1, x5 => if x5 < (x0.length : Int) then (if 0 ≤ x5 then (laws_markInt64S.l0 k (x0.set (x5 : Int).toNat x1) (wrap64 (x1 + 1)) (wrap64 (x5 + 1))) else (none)) else (some (x1, x0))
def laws_markInt64S.f (k : Nat) (l0 : List Int) (a1 : Int) : Option (Int × List Int) := laws_markInt64S.l0 k l0 a1 0

/-! ### laws_markIntsResult: function 23 -/
def laws_markIntsResult.f (k : Nat) (a0_0 : Int) (l0_1 : List Int) (a1 : Int) : Option (Int × List Int) := (laws_markInt64S.f k l0_1 a1).bind fun bt450 => (some (bt450.1, bt450.2))

/-! ### laws_heldInt64S: function 62 -/
def laws_heldInt64S.l0 : Nat → List Int → Int → Int → Option (Int)
  | 0, _, _, _ => none
  | k + 1, x0, x1, x5 => if x5 < (x0.length : Int) then (if 0 ≤ x5 then (if (rd x0 x5) = x1 then (laws_heldInt64S.l0 k x0 (wrap64 (x1 + 1)) (wrap64 (x5 + 1))) else (some (-1))) else (none)) else (some x1)
def laws_heldInt64S.f (k : Nat) (l0 : List Int) (a1 : Int) : Option (Int) := laws_heldInt64S.l0 k l0 a1 0

/-! ### laws_heldIntsResult: function 24 -/
def laws_heldIntsResult.f (k : Nat) (a0_0 : Int) (l0_1 : List Int) (a1 : Int) : Option (Int) := (laws_heldInt64S.f k l0_1 a1).bind fun t454 => (if t454 < 0 then (some (-1)) else (some t454))

/-! ### laws_FnExactChainBack: function 4 -/
def laws_FnExactChainBack.j0 : Nat → List (S78) → Int → Bool → Int → List Int → Int → List Int → Option (Bool)
  | 0, _, _, _, _, _, _, _ => none
  | k + 1, x0, x1, x46, x464000, x464001, x472000, x472001 => if x46 = true then (some false) else ((laws_markIntsResult.f k x472000 x472001 1).bind fun bt480 => ((laws_heldIntsResult.f k x472000 bt480.2 1).bind fun t482 => (if t482 < 0 then (some false) else (if t482 = bt480.1 then ((laws_toRecS.f k x0).bind fun t483 => ((impl_ChainBack.f k t483 x1).bind fun bt486 => ((laws_eqIntsResult.f k bt486.1 bt486.2 x464000 x464001).bind fun t491 => (if t491 = true then ((laws_heldIntsResult.f k x472000 bt480.2 1).bind fun t492 => (if t492 < 0 then (some false) else (if t492 = bt480.1 then (some true) else (some false)))) else (some false))))) else (some false)))))
def laws_FnExactChainBack.f (k : Nat) (l0 : List (S78)) (a1 : Int) : Option (Bool) := (laws_szRecS.f l0 1048576).bind fun t455 => (if t455 < 0 then (some true) else ((laws_toRecS.f k l0).bind fun t456 => ((spec_ChainBack.f k t456 a1).bind fun bt459 => ((laws_toRecS.f k l0).bind fun t464 => ((impl_ChainBack.f k t464 a1).bind fun bt467 => ((laws_eqIntsResult.f k bt467.1 bt467.2 bt459.1 bt459.2).bind fun t472 => (if t472 = true then ((laws_toRecS.f k l0).bind fun t473 => ((laws_eqRecS.f k t464 t473).bind fun t476 => (if t476 = true then ((laws_markRecS.f k t464 1).bind fun bt477 => (if bt477.1 < 0 then (laws_FnExactChainBack.j0 k l0 a1 true bt459.1 bt459.2 bt467.1 bt467.2) else ((laws_eqIntsResult.f k bt467.1 bt467.2 bt459.1 bt459.2).bind fun t479 => (laws_FnExactChainBack.j0 k l0 a1 (!t479) bt459.1 bt459.2 bt467.1 bt467.2)))) else (some false)))) else (some false))))))))

/-! ### spec_l3Bent: function 67 -/
def spec_l3Bent.f (k : Nat) (s0_0 : List Int) (s0_1 : Int) : Option (Int × Int × Int × Bool × Int × Bool × Int × Int × Int) := (spec_l3Rec.f k s0_0 s0_1).bind fun bt542 => ((spec_l1Next.f s0_0 bt542.2.2.2.2.2.2.2.2 16).bind fun bt552 => (if bt552.1 = 0 then ((spec_l1Next.f s0_0 bt552.2 6).bind fun bt554 => ((spec_l1Pick.f s0_0 bt554.2 (([0, 7, wrap64 (1 + bt554.1)] : List Int))).bind fun bt559 => (some (bt559.1, bt542.2.1, bt542.2.2.1, bt542.2.2.2.1, bt542.2.2.2.2.1, bt542.2.2.2.2.2.1, bt542.2.2.2.2.2.2.1, bt542.2.2.2.2.2.2.2.1, bt559.2)))) else (if bt552.1 = 1 then ((spec_l1Pick.f s0_0 bt552.2 (([0, 999, 1000, (-1)] : List Int))).bind fun bt564 => (some (bt542.1, bt564.1, bt542.2.2.1, bt542.2.2.2.1, bt542.2.2.2.2.1, bt542.2.2.2.2.2.1, bt542.2.2.2.2.2.2.1, bt542.2.2.2.2.2.2.2.1, bt564.2))) else (if bt552.1 = 2 then ((spec_l1Pick.f s0_0 bt552.2 (([(-1), 32, 3] : List Int))).bind fun bt569 => (some (bt542.1, bt542.2.1, bt569.1, bt542.2.2.2.1, bt542.2.2.2.2.1, bt542.2.2.2.2.2.1, bt542.2.2.2.2.2.2.1, bt542.2.2.2.2.2.2.2.1, bt569.2))) else (if bt552.1 = 3 then ((spec_l1Pick.f s0_0 bt552.2 (([(-1), 10000, 5] : List Int))).bind fun bt574 => (some (bt542.1, bt542.2.1, bt542.2.2.1, bt542.2.2.2.1, bt574.1, bt542.2.2.2.2.2.1, bt542.2.2.2.2.2.2.1, bt542.2.2.2.2.2.2.2.1, bt574.2))) else (if bt552.1 = 4 then ((spec_l1Pick.f s0_0 bt552.2 (([(-1), 0, 1000, 1001] : List Int))).bind fun bt579 => (some (bt542.1, bt542.2.1, bt542.2.2.1, bt542.2.2.2.1, bt542.2.2.2.2.1, bt542.2.2.2.2.2.1, bt542.2.2.2.2.2.2.1, bt579.1, bt579.2))) else (if bt552.1 = 5 then (some (bt542.1, bt542.2.1, bt542.2.2.1, bt542.2.2.2.1, bt542.2.2.2.2.1, !bt542.2.2.2.2.2.1, bt542.2.2.2.2.2.2.1, bt542.2.2.2.2.2.2.2.1, bt552.2)) else (some (bt542.1, bt542.2.1, bt542.2.2.1, bt542.2.2.2.1, bt542.2.2.2.2.1, bt542.2.2.2.2.2.1, bt542.2.2.2.2.2.2.1, bt542.2.2.2.2.2.2.2.1, bt552.2)))))))))

/-! ### spec_DrawChainBack: function 26 -/
mutual
def spec_DrawChainBack.l0 : Nat → List (S48) → Int → List Int → Int → Option ((List (S48)) × Int)
  | 0, _, _, _, _ => none
  | k + 1, x5, x6, x584000, x584001 => if x6 > 0 then ((spec_l3Rec.f k x584000 x584001).bind fun bt589 => (if bt589.2.1 > 2 then (if x5.length < 2199023255552 then (spec_DrawChainBack.l0 k (x5 ++ [(⟨bt589.1, wrap64 (bt589.2.1 - 2), bt589.2.2.1, bt589.2.2.2.1, bt589.2.2.2.2.1, bt589.2.2.2.2.2.1, bt589.2.2.2.2.2.2.1, bt589.2.2.2.2.2.2.2.1⟩ : S48)]) (wrap64 (x6 - 1)) x584000 bt589.2.2.2.2.2.2.2.2) else (none)) else (if x5.length < 2199023255552 then (spec_DrawChainBack.l0 k (x5 ++ [(⟨bt589.1, bt589.2.1, bt589.2.2.1, bt589.2.2.2.1, bt589.2.2.2.2.1, bt589.2.2.2.2.2.1, bt589.2.2.2.2.2.2.1, bt589.2.2.2.2.2.2.2.1⟩ : S48)]) (wrap64 (x6 - 1)) x584000 bt589.2.2.2.2.2.2.2.2) else (none)))) else ((spec_l1Chance.f x584000 x584001 10).bind fun bt605 => (if bt605.1 = true then ((spec_l3Bent.f k x584000 bt605.2).bind fun bt607 => (if 0 < (x5.length : Int) then (spec_DrawChainBack.j1 k (x5.set (0 : Int).toNat (⟨bt607.1, bt607.2.1, bt607.2.2.1, bt607.2.2.2.1, bt607.2.2.2.2.1, bt607.2.2.2.2.2.1, bt607.2.2.2.2.2.2.1, bt607.2.2.2.2.2.2.2.1⟩ : S48)) x584000 bt607.2.2.2.2.2.2.2.2) else (none))) else (spec_DrawChainBack.j1 k x5 x584000 bt605.2)))
def spec_DrawChainBack.j1 : Nat → List (S48) → List Int → Int → Option ((List (S48)) × Int)
  | 0, _, _, _ => none
  | k + 1, x5, x584000, x584001 => (spec_l1Chance.f x584000 x584001 40).bind fun bt617 => (if bt617.1 = true then ((spec_l1Pick.f x584000 bt617.2 (([1, 2, 1, 2, 1, 3, 0, 1000] : List Int))).bind fun bt625 => (some ((List.replicate 401 z48), bt625.1))) else ((spec_l1Pick.f x584000 bt617.2 (([1, 2, 1, 2, 1, 3, 0, 1000] : List Int))).bind fun bt630 => (some (x5, bt630.1))))
end
def spec_DrawChainBack.f (k : Nat) (l0 : List Int) : Option ((List (S48)) × Int) := (spec_l1Source.f l0).bind fun bt581 => ((spec_l1Next.f bt581.1 bt581.2 12).bind fun bt587 => (spec_DrawChainBack.l0 k (([] : List (S48))) (wrap64 (3 + bt587.1)) bt581.1 bt587.2))

/-! ### laws_lwNums: function 27 -/
def laws_lwNums.l0 : Nat → List Int → List Int → Int → Option (Bool)
  | 0, _, _, _ => none
  | k + 1, x0, x1, x5 => if x5 < (x0.length : Int) then (if 0 ≤ x5 then (if x5 < (x1.length : Int) then (if (rd x0 x5) = (rd x1 x5) then (laws_lwNums.l0 k x0 x1 (wrap64 (x5 + 1))) else (some false)) else (none)) else (none)) else (some true)
def laws_lwNums.f (k : Nat) (l0 : List Int) (l1 : List Int) : Option (Bool) := if (l0.length : Int) = (l1.length : Int) then (laws_lwNums.l0 k l0 l1 0) else (some false)

/-! ### laws_FnBacks: function 5 -/
mutual
def laws_FnBacks.l0 : Nat → List (S48) → Int → Int → Int → List Int → Option (Bool)
  | 0, _, _, _, _, _ => none
  | k + 1, x3, x4, x6, x644000, x644001 => if x6 < (x644001.length : Int) then (if 0 ≤ x6 then (if 0 ≤ (wrap64 ((rd x644001 x6) - 1)) then (if (wrap64 ((rd x644001 x6) - 1)) < (x3.length : Int) then (if ((rd_T48 x3 (wrap64 ((rd x644001 x6) - 1))).f0) = 2 then (if ((rd_T48 x3 (wrap64 ((rd x644001 x6) - 1))).f1) = x4 then (if x6 > 0 then (if 0 ≤ (wrap64 (x6 - 1)) then (if (wrap64 (x6 - 1)) < (x644001.length : Int) then (if (rd x644001 x6) ≥ (rd x644001 (wrap64 (x6 - 1))) then (some false) else (laws_FnBacks.l0 k x3 x4 (wrap64 (x6 + 1)) x644000 x644001)) else (none)) else (none)) else (laws_FnBacks.l0 k x3 x4 (wrap64 (x6 + 1)) x644000 x644001)) else (some false)) else (some false)) else (none)) else (none)) else (none)) else (if (x644001.length : Int) = 0 then (laws_FnBacks.j1 k x3 x4 true x644000 x644001) else (laws_FnBacks.j1 k x3 x4 (decide ((x3.length : Int) ≥ 400)) x644000 x644001))
def laws_FnBacks.j1 : Nat → List (S48) → Int → Bool → Int → List Int → Option (Bool)
  | 0, _, _, _, _, _ => none
  | k + 1, x3, x4, x82, x644000, x644001 => if x82 = true then ((spec_ChainBack.f k x3 x4).bind fun bt653 => (some ((bt653.2.length : Int) == (x644001.length : Int)))) else (if 0 < (x644001.length : Int) then (if 0 ≤ (wrap64 ((rd x644001 0) - 1)) then (if (wrap64 ((rd x644001 0) - 1)) < (x3.length : Int) then ((some (([] : List (S48)) : List (S48))).bind fun y660 => (if y660.length + x3.length < 2199023255552 then ((some (y660 ++ x3 : List (S48))).bind fun y663 => ((some (([(⟨5, x4, (rd_T48 x3 (wrap64 ((rd x644001 0) - 1))).f2, (rd_T48 x3 (wrap64 ((rd x644001 0) - 1))).f5, (rd_T48 x3 (wrap64 ((rd x644001 0) - 1))).f6, (rd_T48 x3 (wrap64 ((rd x644001 0) - 1))).f3, (rd_T48 x3 (wrap64 ((rd x644001 0) - 1))).f4, rd x644001 0⟩ : S48)] : List (S48)) : List (S48))).bind fun y667 => (if y663.length + y667.length < 2199023255552 then ((impl_ChainBack.f k (y663 ++ y667) x4).bind fun bt673 => (if bt673.1 = 0 then (if 1 ≤ (x644001.length : Int) then ((laws_lwNums.f k bt673.2 (x644001.drop 1)).bind fun t682 => (some t682)) else (none)) else (some false))) else (none)))) else (none))) else (none)) else (none)) else (none))
end
def laws_FnBacks.f (k : Nat) (l0 : List Int) : Option (Bool) := (laws_lwBig.f l0).bind fun t634 => (if t634 = true then (some true) else ((spec_DrawChainBack.f k l0).bind fun bt635 => ((impl_ChainBack.f k bt635.1 bt635.2).bind fun bt639 => (if bt639.1 = 0 then (laws_FnBacks.l0 k bt635.1 bt635.2 0 bt639.1 bt639.2) else ((spec_ChainBack.f k bt635.1 bt635.2).bind fun bt644 => (some (bt644.1 == bt639.1)))))))

/-! ### laws_FnExactUnpackRecs: function 6 -/
def laws_FnExactUnpackRecs.j0 : Nat → List Int → Bool → Int → Int → List (S48) → Int → Int → List (S48) → Option (Bool)
  | 0, _, _, _, _, _, _, _, _ => none
  | k + 1, x0, x39, x718000, x718001, x718002, x727000, x727001, x727002 => if x39 = true then (some false) else ((laws_markRecsResult.f k x727000 x727001 x727002 1).bind fun bt735 => ((laws_heldRecsResult.f k x727000 x727001 bt735.2 1).bind fun t737 => (if t737 < 0 then (some false) else (if t737 = bt735.1 then ((laws_toByteS.f k x0).bind fun t738 => ((impl_UnpackRecs.f k t738).bind fun bt741 => ((laws_eqRecsResult.f k bt741.1 bt741.2.1 bt741.2.2 x718000 x718001 x718002).bind fun t747 => (if t747 = true then ((laws_heldRecsResult.f k x727000 x727001 bt735.2 1).bind fun t748 => (if t748 < 0 then (some false) else (if t748 = bt735.1 then (some true) else (some false)))) else (some false))))) else (some false)))))
def laws_FnExactUnpackRecs.f (k : Nat) (l0 : List Int) : Option (Bool) := if (l0.length : Int) > 1048576 then (some true) else ((laws_toByteS.f k l0).bind fun t709 => ((spec_UnpackRecs.f k t709).bind fun bt712 => ((laws_toByteS.f k l0).bind fun t718 => ((impl_UnpackRecs.f k t718).bind fun bt721 => ((laws_eqRecsResult.f k bt721.1 bt721.2.1 bt721.2.2 bt712.1 bt712.2.1 bt712.2.2).bind fun t727 => (if t727 = true then ((laws_toByteS.f k l0).bind fun t728 => ((laws_eqByteS.f k t718 t728).bind fun t731 => (if t731 = true then ((laws_markByteS.f k t718 1).bind fun bt732 => (if bt732.1 < 0 then (laws_FnExactUnpackRecs.j0 k l0 true bt712.1 bt712.2.1 bt712.2.2 bt721.1 bt721.2.1 bt721.2.2) else ((laws_eqRecsResult.f k bt721.1 bt721.2.1 bt721.2.2 bt712.1 bt712.2.1 bt712.2.2).bind fun t734 => (laws_FnExactUnpackRecs.j0 k l0 (!t734) bt712.1 bt712.2.1 bt712.2.2 bt721.1 bt721.2.1 bt721.2.2)))) else (some false)))) else (some false)))))))

/-! ### spec_FlushLog: function 36 -/
def spec_FlushLog.f (k : Nat) (l0_0 : List Int) (l0_1 : List Int) : Option (Int × Int × List Int × List Int) := (spec_LogFault.f k l0_0 l0_1).bind fun t757 => (if t757 = 0 then ((spec_l3Count.f l0_0 l0_1).bind fun t758 => ((spec_l3Flush.f l0_0 l0_1).bind fun bt759 => (some (0, t758, bt759.1, bt759.2)))) else (some (t757, 0, ([] : List Int), ([] : List Int))))

/-! ### impl_FlushLog: function 37 -/
def impl_FlushLog.f (k : Nat) (l0_0 : List Int) (l0_1 : List Int) : Option (Int × Int × List Int × List Int) := (impl_LogFault.f k l0_0 l0_1).bind fun t768 => (if t768 = 0 then ((impl_Log_count.f l0_0 l0_1).bind fun t769 => ((impl_Log_all.f k l0_0 l0_1).bind fun t770 => (some (0, t769, t770, ([] : List Int))))) else (some (t768, 0, ([] : List Int), ([] : List Int))))

/-! ### laws_FnExactFlushLog: function 7 -/
def laws_FnExactFlushLog.j0 : Nat → Bool → List Int → List Int → Int → Int → List Int → List Int → Int → Int → List Int → List Int → Option (Bool)
  | 0, _, _, _, _, _, _, _, _, _, _, _ => none
  | k + 1, x42, x792000, x792001, x808000, x808001, x808002, x808003, x824000, x824001, x824002, x824003 => if x42 = true then (some false) else ((laws_markLogResult.f k x824000 x824001 x824002 x824003 1).bind fun bt836 => ((laws_heldLogResult.f k x824000 x824001 bt836.2.1 bt836.2.2 1).bind fun t839 => (if t839 < 0 then (some false) else (if t839 = bt836.1 then ((laws_toLog.f k x792000 x792001).bind fun bt840 => ((impl_FlushLog.f k bt840.1 bt840.2).bind fun bt846 => ((laws_eqLogResult.f k bt846.1 bt846.2.1 bt846.2.2.1 bt846.2.2.2 x808000 x808001 x808002 x808003).bind fun t855 => (if t855 = true then ((laws_heldLogResult.f k x824000 x824001 bt836.2.1 bt836.2.2 1).bind fun t856 => (if t856 < 0 then (some false) else (if t856 = bt836.1 then (some true) else (some false)))) else (some false))))) else (some false)))))
def laws_FnExactFlushLog.f (k : Nat) (l0_0 : List Int) (l0_1 : List Int) : Option (Bool) := (laws_szLog.f l0_0 l0_1 1048576).bind fun t792 => (if t792 < 0 then (some true) else ((laws_toLog.f k l0_0 l0_1).bind fun bt793 => ((spec_FlushLog.f k bt793.1 bt793.2).bind fun bt799 => ((laws_toLog.f k l0_0 l0_1).bind fun bt808 => ((impl_FlushLog.f k bt808.1 bt808.2).bind fun bt815 => ((laws_eqLogResult.f k bt815.1 bt815.2.1 bt815.2.2.1 bt815.2.2.2 bt799.1 bt799.2.1 bt799.2.2.1 bt799.2.2.2).bind fun t824 => (if t824 = true then ((laws_toLog.f k l0_0 l0_1).bind fun bt825 => ((laws_eqLog.f k bt808.1 bt808.2 bt825.1 bt825.2).bind fun t831 => (if t831 = true then ((laws_markLog.f k bt808.1 bt808.2 1).bind fun bt832 => (if bt832.1 < 0 then (laws_FnExactFlushLog.j0 k true l0_0 l0_1 bt799.1 bt799.2.1 bt799.2.2.1 bt799.2.2.2 bt815.1 bt815.2.1 bt815.2.2.1 bt815.2.2.2) else ((laws_eqLogResult.f k bt815.1 bt815.2.1 bt815.2.2.1 bt815.2.2.2 bt799.1 bt799.2.1 bt799.2.2.1 bt799.2.2.2).bind fun t835 => (laws_FnExactFlushLog.j0 k (!t835) l0_0 l0_1 bt799.1 bt799.2.1 bt799.2.2.1 bt799.2.2.2 bt815.1 bt815.2.1 bt815.2.2.1 bt815.2.2.2)))) else (some false)))) else (some false))))))))

/-! ### laws_FnExactCrashLog: function 8 -/
def laws_FnExactCrashLog.j0 : Nat → Int → Bool → List Int → List Int → Int → Int → List Int → List Int → Int → Int → List Int → List Int → Option (Bool)
  | 0, _, _, _, _, _, _, _, _, _, _, _, _ => none
  | k + 1, x1, x46, x919000, x919001, x935000, x935001, x935002, x935003, x951000, x951001, x951002, x951003 => if x46 = true then (some false) else ((laws_markLogResult.f k x951000 x951001 x951002 x951003 1).bind fun bt963 => ((laws_heldLogResult.f k x951000 x951001 bt963.2.1 bt963.2.2 1).bind fun t966 => (if t966 < 0 then (some false) else (if t966 = bt963.1 then ((laws_toLog.f k x919000 x919001).bind fun bt967 => ((impl_CrashLog.f k bt967.1 bt967.2 x1).bind fun bt973 => ((laws_eqLogResult.f k bt973.1 bt973.2.1 bt973.2.2.1 bt973.2.2.2 x935000 x935001 x935002 x935003).bind fun t982 => (if t982 = true then ((laws_heldLogResult.f k x951000 x951001 bt963.2.1 bt963.2.2 1).bind fun t983 => (if t983 < 0 then (some false) else (if t983 = bt963.1 then (some true) else (some false)))) else (some false))))) else (some false)))))
def laws_FnExactCrashLog.f (k : Nat) (l0_0 : List Int) (l0_1 : List Int) (a1 : Int) : Option (Bool) := (laws_szLog.f l0_0 l0_1 1048576).bind fun t919 => (if t919 < 0 then (some true) else ((laws_toLog.f k l0_0 l0_1).bind fun bt920 => ((spec_CrashLog.f k bt920.1 bt920.2 a1).bind fun bt926 => ((laws_toLog.f k l0_0 l0_1).bind fun bt935 => ((impl_CrashLog.f k bt935.1 bt935.2 a1).bind fun bt942 => ((laws_eqLogResult.f k bt942.1 bt942.2.1 bt942.2.2.1 bt942.2.2.2 bt926.1 bt926.2.1 bt926.2.2.1 bt926.2.2.2).bind fun t951 => (if t951 = true then ((laws_toLog.f k l0_0 l0_1).bind fun bt952 => ((laws_eqLog.f k bt935.1 bt935.2 bt952.1 bt952.2).bind fun t958 => (if t958 = true then ((laws_markLog.f k bt935.1 bt935.2 1).bind fun bt959 => (if bt959.1 < 0 then (laws_FnExactCrashLog.j0 k a1 true l0_0 l0_1 bt926.1 bt926.2.1 bt926.2.2.1 bt926.2.2.2 bt942.1 bt942.2.1 bt942.2.2.1 bt942.2.2.2) else ((laws_eqLogResult.f k bt942.1 bt942.2.1 bt942.2.2.1 bt942.2.2.2 bt926.1 bt926.2.1 bt926.2.2.1 bt926.2.2.2).bind fun t962 => (laws_FnExactCrashLog.j0 k a1 (!t962) l0_0 l0_1 bt926.1 bt926.2.1 bt926.2.2.1 bt926.2.2.2 bt942.1 bt942.2.1 bt942.2.2.1 bt942.2.2.2)))) else (some false)))) else (some false))))))))

/-! ### spec_l3Copy: function 103 -/
def spec_l3Copy.f (l0_0 : List Int) (l0_1 : List Int) : Option (List Int × List Int) := (some (([] : List Int) : List Int)).bind fun y986 => (if y986.length + l0_0.length < 140737488355328 then ((some (([] : List Int) : List Int)).bind fun y992 => (if y992.length + l0_1.length < 140737488355328 then (some ((y986 ++ l0_0), (y992 ++ l0_1))) else (none))) else (none))

/-! ### spec_l3Append: function 93 -/
def spec_l3Append.f (k : Nat) (l0_0 : List Int) (l0_1 : List Int) (a1_0 : Int) (a1_1 : Int) (a1_2 : Int) (a1_3 : Bool) (a1_4 : Int) (a1_5 : Bool) (a1_6 : Int) (a1_7 : Int) : Option (List Int × List Int × Int) := (spec_l3Copy.f l0_0 l0_1).bind fun bt1001 => ((spec_l3Pack.f k a1_0 a1_1 a1_2 a1_3 a1_4 a1_5 a1_6 a1_7).bind fun t1008 => (if bt1001.2.length + t1008.length < 140737488355328 then ((some (bt1001.2 ++ t1008 : List Int)).bind fun y1011 => (if (wrap64 ((bt1001.1.length : Int) + (y1011.length : Int))) > 4000 then (some (l0_0, l0_1, 2)) else (some (bt1001.1, y1011, 0)))) else (none)))

/-! ### spec_l3Log: function 78 -/
def spec_l3Log.l0 : Nat → Int → List Int → Int → List Int → List Int → Option (List Int × List Int × Int)
  | 0, _, _, _, _, _ => none
  | k + 1, x4, x1000, x1001, x1016000, x1016001 => if x4 > 0 then ((spec_l3Rec.f k x1000 x1001).bind fun bt1018 => ((spec_l3Append.f k x1016000 x1016001 bt1018.1 bt1018.2.1 bt1018.2.2.1 bt1018.2.2.2.1 bt1018.2.2.2.2.1 bt1018.2.2.2.2.2.1 bt1018.2.2.2.2.2.2.1 bt1018.2.2.2.2.2.2.2.1).bind fun bt1027 => (if bt1027.2.2 = 0 then ((spec_l1Chance.f x1000 bt1018.2.2.2.2.2.2.2.2 3).bind fun bt1035 => (if bt1035.1 = true then ((spec_l3Flush.f bt1027.1 bt1027.2.1).bind fun bt1037 => (spec_l3Log.l0 k (wrap64 (x4 - 1)) x1000 bt1035.2 bt1037.1 bt1037.2)) else (spec_l3Log.l0 k (wrap64 (x4 - 1)) x1000 bt1035.2 bt1027.1 bt1027.2.1))) else (none)))) else ((spec_l1Next.f x1000 x1001 20).bind fun bt1043 => (if bt1043.1 = 0 then ((some (([1, 2] : List Int) : List Int)).bind fun y1045 => (if x1016001.length + y1045.length < 140737488355328 then (some (x1016000, (x1016001 ++ y1045), bt1043.2)) else (none))) else (if bt1043.1 = 1 then (if (x1016000.length : Int) > 0 then ((spec_l1Next.f x1000 bt1043.2 (x1016000.length : Int)).bind fun bt1051 => ((spec_l1Next.f x1000 bt1051.2 256).bind fun bt1053 => (if 0 ≤ bt1051.1 then (if bt1051.1 < (x1016000.length : Int) then (some ((x1016000.set (bt1051.1 : Int).toNat ((bt1053.1) % 256)), x1016001, bt1053.2)) else (none)) else (none)))) else (some (x1016000, x1016001, bt1043.2))) else (if bt1043.1 = 2 then (some ((List.replicate 4001 0), x1016001, bt1043.2)) else (some (x1016000, x1016001, bt1043.2))))))
def spec_l3Log.f (k : Nat) (s0_0 : List Int) (s0_1 : Int) : Option (List Int × List Int × Int) := (spec_l1Next.f s0_0 s0_1 9).bind fun bt1016 => (spec_l3Log.l0 k bt1016.1 s0_0 bt1016.2 ([] : List Int) ([] : List Int))

/-! ### spec_DrawCrashLog: function 44 -/
def spec_DrawCrashLog.f (k : Nat) (l0 : List Int) : Option (List Int × List Int × Int) := (spec_l1Source.f l0).bind fun bt1060 => ((spec_l3Log.f k bt1060.1 bt1060.2).bind fun bt1063 => ((spec_l1Next.f bt1060.1 bt1063.2.2 (wrap64 ((bt1063.2.1.length : Int) + 1))).bind fun bt1071 => ((spec_l1Next.f bt1060.1 bt1071.2 (wrap64 ((bt1063.2.1.length : Int) + 1))).bind fun bt1073 => ((spec_l1Pick.f bt1060.1 bt1073.2 (([bt1071.1, bt1073.1, 0, (bt1063.2.1.length : Int), wrap64 ((bt1063.2.1.length : Int) + 1), (-1)] : List Int))).bind fun bt1078 => (some (bt1063.1, bt1063.2.1, bt1078.1))))))

/-! ### laws_FnTails: function 9 -/
mutual
def laws_FnTails.j0 : Nat → Int → List (S48) → Bool → List Int → List Int → Int → Int → List (S48) → Option (Bool)
  | 0, _, _, _, _, _, _, _, _ => none
  | k + 1, x4, x6, x73, x1111000, x1111001, x1139000, x1139001, x1139002 => if x73 = true then (some false) else (laws_FnTails.l0 k x4 x6 0 x1111000 x1111001 x1139000 x1139001 x1139002)
def laws_FnTails.l0 : Nat → Int → List (S48) → Int → List Int → List Int → Int → Int → List (S48) → Option (Bool)
  | 0, _, _, _, _, _, _, _, _ => none
  | k + 1, x4, x6, x9, x1111000, x1111001, x1139000, x1139001, x1139002 => if x9 < (x1139002.length : Int) then (if 0 ≤ x9 then (if x9 < (x6.length : Int) then (if (!(((rd_T48 x1139002 x9).f0) == ((rd_T48 x6 x9).f0)) || (!(((rd_T48 x1139002 x9).f1) == ((rd_T48 x6 x9).f1)) || (!(((rd_T48 x1139002 x9).f2) == ((rd_T48 x6 x9).f2)) || (!(((rd_T48 x1139002 x9).f3) == ((rd_T48 x6 x9).f3)) || (!(((rd_T48 x1139002 x9).f4) == ((rd_T48 x6 x9).f4)) || (!(((rd_T48 x1139002 x9).f5) == ((rd_T48 x6 x9).f5)) || (!(((rd_T48 x1139002 x9).f6) == ((rd_T48 x6 x9).f6)) || (!(((rd_T48 x1139002 x9).f7) == ((rd_T48 x6 x9).f7)))))))))) = true then (some false) else (laws_FnTails.l0 k x4 x6 (wrap64 (x9 + 1)) x1111000 x1111001 x1139000 x1139001 x1139002)) else (none)) else (none)) else (if x4 < (x1111001.length : Int) then ((spec_RecsOf.f k x1111000 x1111001).bind fun bt1146 => (some ((x6.length : Int) == (bt1146.2.2.length : Int)))) else (if (x1139002.length : Int) = (x6.length : Int) then ((spec_RecsOf.f k x1111000 x1111001).bind fun bt1151 => (some ((x6.length : Int) == (bt1151.2.2.length : Int)))) else (some false)))
end
def laws_FnTails.f (k : Nat) (l0 : List Int) : Option (Bool) := (laws_lwBig.f l0).bind fun t1102 => (if t1102 = true then (some true) else ((spec_DrawCrashLog.f k l0).bind fun bt1103 => ((impl_CrashLog.f k bt1103.1 bt1103.2.1 bt1103.2.2).bind fun bt1111 => (if bt1111.1 = 0 then ((impl_RecsOf.f k bt1103.1 bt1103.2.1).bind fun bt1128 => ((impl_RecsOf.f k bt1111.2.2.1 bt1111.2.2.2).bind fun bt1133 => ((impl_UnpackRecs.f k bt1103.1).bind fun bt1139 => (if bt1133.1 = 0 then (if (bt1133.2.2.length : Int) = bt1111.2.1 then (if (bt1133.2.2.length : Int) < (bt1139.2.2.length : Int) then (laws_FnTails.j0 k bt1103.2.2 bt1128.2.2 true bt1103.1 bt1103.2.1 bt1133.1 bt1133.2.1 bt1133.2.2) else (if (bt1133.2.2.length : Int) > (bt1128.2.2.length : Int) then (laws_FnTails.j0 k bt1103.2.2 bt1128.2.2 true bt1103.1 bt1103.2.1 bt1133.1 bt1133.2.1 bt1133.2.2) else (laws_FnTails.j0 k bt1103.2.2 bt1128.2.2 ((bt1111.2.2.2.length : Int) != 0) bt1103.1 bt1103.2.1 bt1133.1 bt1133.2.1 bt1133.2.2))) else (laws_FnTails.j0 k bt1103.2.2 bt1128.2.2 true bt1103.1 bt1103.2.1 bt1133.1 bt1133.2.1 bt1133.2.2)) else (laws_FnTails.j0 k bt1103.2.2 bt1128.2.2 true bt1103.1 bt1103.2.1 bt1133.1 bt1133.2.1 bt1133.2.2))))) else ((spec_CrashLog.f k bt1103.1 bt1103.2.1 bt1103.2.2).bind fun bt1120 => (some (bt1120.1 == bt1111.1)))))))

/-! ### laws_FnExactRecsOf: function 10 -/
def laws_FnExactRecsOf.j0 : Nat → Bool → List Int → List Int → Int → Int → List (S48) → Int → Int → List (S48) → Option (Bool)
  | 0, _, _, _, _, _, _, _, _, _ => none
  | k + 1, x42, x1157000, x1157001, x1170000, x1170001, x1170002, x1183000, x1183001, x1183002 => if x42 = true then (some false) else ((laws_markRecsResult.f k x1183000 x1183001 x1183002 1).bind fun bt1195 => ((laws_heldRecsResult.f k x1183000 x1183001 bt1195.2 1).bind fun t1197 => (if t1197 < 0 then (some false) else (if t1197 = bt1195.1 then ((laws_toLog.f k x1157000 x1157001).bind fun bt1198 => ((impl_RecsOf.f k bt1198.1 bt1198.2).bind fun bt1204 => ((laws_eqRecsResult.f k bt1204.1 bt1204.2.1 bt1204.2.2 x1170000 x1170001 x1170002).bind fun t1210 => (if t1210 = true then ((laws_heldRecsResult.f k x1183000 x1183001 bt1195.2 1).bind fun t1211 => (if t1211 < 0 then (some false) else (if t1211 = bt1195.1 then (some true) else (some false)))) else (some false))))) else (some false)))))
def laws_FnExactRecsOf.f (k : Nat) (l0_0 : List Int) (l0_1 : List Int) : Option (Bool) := (laws_szLog.f l0_0 l0_1 1048576).bind fun t1157 => (if t1157 < 0 then (some true) else ((laws_toLog.f k l0_0 l0_1).bind fun bt1158 => ((spec_RecsOf.f k bt1158.1 bt1158.2).bind fun bt1164 => ((laws_toLog.f k l0_0 l0_1).bind fun bt1170 => ((impl_RecsOf.f k bt1170.1 bt1170.2).bind fun bt1177 => ((laws_eqRecsResult.f k bt1177.1 bt1177.2.1 bt1177.2.2 bt1164.1 bt1164.2.1 bt1164.2.2).bind fun t1183 => (if t1183 = true then ((laws_toLog.f k l0_0 l0_1).bind fun bt1184 => ((laws_eqLog.f k bt1170.1 bt1170.2 bt1184.1 bt1184.2).bind fun t1190 => (if t1190 = true then ((laws_markLog.f k bt1170.1 bt1170.2 1).bind fun bt1191 => (if bt1191.1 < 0 then (laws_FnExactRecsOf.j0 k true l0_0 l0_1 bt1164.1 bt1164.2.1 bt1164.2.2 bt1177.1 bt1177.2.1 bt1177.2.2) else ((laws_eqRecsResult.f k bt1177.1 bt1177.2.1 bt1177.2.2 bt1164.1 bt1164.2.1 bt1164.2.2).bind fun t1194 => (laws_FnExactRecsOf.j0 k (!t1194) l0_0 l0_1 bt1164.1 bt1164.2.1 bt1164.2.2 bt1177.1 bt1177.2.1 bt1177.2.2)))) else (some false)))) else (some false))))))))

end Go.Proofs.Ythagppmaofcllaa.P
