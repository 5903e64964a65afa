-- Printed by this session's own program over the kit's print (wip/tools/mp.py). Not trusted: Lean checks it.
import Derived.Test.YthagppmaofcllaaP0
import Derived.Test.YthagppmaofcllaaPDadefgh0
import Derived.Test.YthagppmaofcllaaPDall0
import Derived.Shelf.Spec.SlicesGrow
namespace Go.Proofs.Ythagppmaofcllaa.P
open Go.RowKit Go.Proofs.YthagppmaofcllaaW.PrintWords Go.Proofs.YthagppmaofcllaaW.PrintLast Go.Proofs.YthagppmaofcllaaW.PrintMore
attribute [local go_sem] max2_int min2_int max_two min_two max_three min_three max_four min_four   -- for this text's walks alone
set_option linter.unusedVariables false
set_option linter.unusedSimpArgs false

/-! ### laws_toByteS: function 29 -/
def laws_toByteS.l0 : Nat → List Int → List Int → Int → Option (List Int)
  | 0, _, _, _ => none
  | k + 1, x0, x3, x4 => if x4 < (x0.length : Int) then (if 0 ≤ x4 then (if x4 < (x3.length : Int) then (laws_toByteS.l0 k x0 (x3.set (x4 : Int).toNat (rd x0 x4)) (wrap64 (x4 + 1))) else (none)) else (none)) else (some x3)
def laws_toByteS.f (k : Nat) (l0 : List Int) : Option (List Int) := if 0 ≤ (l0.length : Int) then (if ((l0.length : Int) : Int).toNat ≤ 281474976710656 then (laws_toByteS.l0 k l0 (List.replicate ((l0.length : Int) : Int).toNat 0) 0) else (none)) else (none)

/-! ### laws_eqByteS: function 32 -/
def laws_eqByteS.l0 : Nat → List Int → List Int → Int → Option (Bool)
  | 0, _, _, _ => none
  | k + 1, x0, x1, x5 => if x5 < (x0.length : Int) then (if 0 ≤ x5 then (if x5 < (x1.length : Int) then (if (rd x0 x5) = (rd x1 x5) then (laws_eqByteS.l0 k x0 x1 (wrap64 (x5 + 1))) else (some false)) else (none)) else (none)) else (some true)
def laws_eqByteS.f (k : Nat) (l0 : List Int) (l1 : List Int) : Option (Bool) := if (l0.length : Int) = (l1.length : Int) then (laws_eqByteS.l0 k l0 l1 0) else (some false)

/-! ### spec_l3All: function 48 -/
def spec_l3All.f (l0_0 : List Int) (l0_1 : List Int) : Option (List Int) := (some (([] : List Int) : List Int)).bind fun y105 => (if y105.length + l0_0.length < 140737488355328 then ((some (y105 ++ l0_0 : List Int)).bind fun y108 => (if y108.length + l0_1.length < 140737488355328 then (some (y108 ++ l0_1)) else (none))) else (none))

/-! ### spec_LogFault: function 12 -/
def spec_LogFault.f (k : Nat) (l0_0 : List Int) (l0_1 : List Int) : Option (Int) := if (wrap64 ((l0_0.length : Int) + (l0_1.length : Int))) > 4000 then (some 2) else ((spec_l3All.f l0_0 l0_1).bind fun t198 => ((spec_l3Recs.f k t198).bind fun bt201 => (if bt201.2 = (t198.length : Int) then (some 0) else (some 5))))

/-! ### slices_Grow_byte: function 92 -/
-- NEEDS Derived.Shelf.Spec.SlicesGrow
def slices_Grow_byte.f (l0 : List (Int)) (a1 : Int) : Option (List (Int)) := if 0 ≤ a1 then (if l0.length + a1.toNat ≤ 140737488355328 then some l0 else none) else none

/-! ### slices_Concat_byte: function 77 -/
mutual
def slices_Concat_byte.l0 : Nat → List (List Int) → Int → List (List Int) → Int → Int → Option (List Int)
  | 0, _, _, _, _, _ => none
  | k + 1, x0, x3, x9, x10, x11 => if x11 < x10 then (if 0 ≤ x11 then (if x11 < (x9.length : Int) then (if (wrap64 (x3 + ((rd_L4 x9 x11).length : Int))) < 0 then (none) else (slices_Concat_byte.l0 k x0 (wrap64 (x3 + ((rd_L4 x9 x11).length : Int))) x9 x10 (wrap64 (x11 + 1)))) else (none)) else (none)) else ((slices_Grow_byte.f ([] : List Int) x3).bind fun t220 => (slices_Concat_byte.l1 k t220 x0 (x0.length : Int) 0))
def slices_Concat_byte.l1 : Nat → List Int → List (List Int) → Int → Int → Option (List Int)
  | 0, _, _, _, _ => none
  | k + 1, x6, x25, x26, x27 => if x27 < x26 then (if 0 ≤ x27 then (if x27 < (x25.length : Int) then (if x6.length + (rd_L4 x25 x27).length < 140737488355328 then (slices_Concat_byte.l1 k (x6 ++ (rd_L4 x25 x27)) x25 x26 (wrap64 (x27 + 1))) else (none)) else (none)) else (none)) else (some x6)
end
def slices_Concat_byte.f (k : Nat) (l0 : List (List Int)) : Option (List Int) := slices_Concat_byte.l0 k l0 0 l0 (l0.length : Int) 0

/-! ### impl_Log_all: function 50 -/
def impl_Log_all.f (k : Nat) (l0_0 : List Int) (l0_1 : List Int) : Option (List Int) := (slices_Concat_byte.f k (([l0_0, l0_1] : List (List Int)))).bind fun t231 => (some t231)

/-! ### impl_LogFault: function 14 -/
def impl_LogFault.f (k : Nat) (l0_0 : List Int) (l0_1 : List Int) : Option (Int) := (impl_Log_all.f k l0_0 l0_1).bind fun t342 => (if (t342.length : Int) > 4000 then (some 2) else ((impl_unpack.f k t342).bind fun t345 => (if (wrap64 (13 * (t345.length : Int))) = (t342.length : Int) then (some 0) else (some 5))))

/-! ### laws_szByteS: function 47 -/
def laws_szByteS.f (l0 : List Int) (a1 : Int) : Option (Int) := if (wrap64 (a1 - (l0.length : Int))) < 0 then (some (-1)) else (some (wrap64 (a1 - (l0.length : Int))))

/-! ### laws_szLog: function 11 -/
def laws_szLog.f (l0_0 : List Int) (l0_1 : List Int) (a1 : Int) : Option (Int) := (laws_szByteS.f l0_0 a1).bind fun t102 => (if t102 < 0 then (some (-1)) else ((laws_szByteS.f l0_1 t102).bind fun t103 => (if t103 < 0 then (some (-1)) else (some t103))))

/-! ### laws_toLog: function 13 -/
def laws_toLog.f (k : Nat) (l0_0 : List Int) (l0_1 : List Int) : Option (List Int × List Int) := (laws_toByteS.f k l0_0).bind fun t213 => ((laws_toByteS.f k l0_1).bind fun t216 => (some (t213, t216)))

/-! ### laws_eqLog: function 15 -/
def laws_eqLog.f (k : Nat) (l0_0 : List Int) (l0_1 : List Int) (l1_0 : List Int) (l1_1 : List Int) : Option (Bool) := (laws_eqByteS.f k l0_0 l1_0).bind fun t352 => (if t352 = true then ((laws_eqByteS.f k l0_1 l1_1).bind fun t353 => (if t353 = true then (some true) else (some false))) else (some false))

/-! ### laws_markByteS: function 33 -/
def laws_markByteS.l0 : Nat → List Int → Int → Int → Option (Int × List Int)
  | 0, _, _, _ => none
  | k + 1, x0, x1, x5 => if x5 < (x0.length : Int) then (if 0 ≤ x5 then (laws_markByteS.l0 k (x0.set (x5 : Int).toNat ((x1) % 256)) (wrap64 (x1 + 1)) (wrap64 (x5 + 1))) else (none)) else (some (x1, x0))
def laws_markByteS.f (k : Nat) (l0 : List Int) (a1 : Int) : Option (Int × List Int) := laws_markByteS.l0 k l0 a1 0

/-! ### laws_eqRec: function 60 -/
def laws_eqRec.f (a0_0 : Int) (a0_1 : Int) (a0_2 : Int) (a0_3 : Bool) (a0_4 : Int) (a0_5 : Bool) (a0_6 : Int) (a0_7 : Int) (a1_0 : Int) (a1_1 : Int) (a1_2 : Int) (a1_3 : Bool) (a1_4 : Int) (a1_5 : Bool) (a1_6 : Int) (a1_7 : Int) : Option (Bool) := if a0_0 = a1_0 then (if a0_1 = a1_1 then (if a0_2 = a1_2 then (if (a0_3 != a1_3) = true then (some false) else (if a0_4 = a1_4 then (if (a0_5 != a1_5) = true then (some false) else (if a0_6 = a1_6 then (if a0_7 = a1_7 then (some true) else (some false)) else (some false))) else (some false))) else (some false)) else (some false)) else (some false)

/-! ### laws_eqRecS: function 21 -/
def laws_eqRecS.l0 : Nat → List (S48) → List (S48) → Int → Option (Bool)
  | 0, _, _, _ => none
  | k + 1, x0, x1, x5 => if x5 < (x0.length : Int) then (if 0 ≤ x5 then (if x5 < (x1.length : Int) then ((laws_eqRec.f ((rd_T48 x0 x5).f0) ((rd_T48 x0 x5).f1) ((rd_T48 x0 x5).f2) ((rd_T48 x0 x5).f3) ((rd_T48 x0 x5).f4) ((rd_T48 x0 x5).f5) ((rd_T48 x0 x5).f6) ((rd_T48 x0 x5).f7) ((rd_T48 x1 x5).f0) ((rd_T48 x1 x5).f1) ((rd_T48 x1 x5).f2) ((rd_T48 x1 x5).f3) ((rd_T48 x1 x5).f4) ((rd_T48 x1 x5).f5) ((rd_T48 x1 x5).f6) ((rd_T48 x1 x5).f7)).bind fun t439 => (if t439 = true then (laws_eqRecS.l0 k x0 x1 (wrap64 (x5 + 1))) else (some false))) else (none)) else (none)) else (some true)
def laws_eqRecS.f (k : Nat) (l0 : List (S48)) (l1 : List (S48)) : Option (Bool) := if (l0.length : Int) = (l1.length : Int) then (laws_eqRecS.l0 k l0 l1 0) else (some false)

/-! ### laws_markRecS: function 22 -/
def laws_markRecS.l0 : Nat → List (S48) → Int → Int → Option (Int × (List (S48)))
  | 0, _, _, _ => none
  | k + 1, x0, x1, x5 => if x5 < (x0.length : Int) then (if 0 ≤ x5 then ((some (x0.set (x5 : Int).toNat (⟨x1, (rd_T48 x0 x5).f1, (rd_T48 x0 x5).f2, (rd_T48 x0 x5).f3, (rd_T48 x0 x5).f4, (rd_T48 x0 x5).f5, (rd_T48 x0 x5).f6, (rd_T48 x0 x5).f7⟩ : S48) : List (S48))).bind fun y440 => ((some (y440.set (x5 : Int).toNat (⟨(rd_T48 y440 x5).f0, wrap64 (x1 + 1), (rd_T48 y440 x5).f2, (rd_T48 y440 x5).f3, (rd_T48 y440 x5).f4, (rd_T48 y440 x5).f5, (rd_T48 y440 x5).f6, (rd_T48 y440 x5).f7⟩ : S48) : List (S48))).bind fun y441 => ((some (y441.set (x5 : Int).toNat (⟨(rd_T48 y441 x5).f0, (rd_T48 y441 x5).f1, wrap64 ((wrap64 (x1 + 1)) + 1), (rd_T48 y441 x5).f3, (rd_T48 y441 x5).f4, (rd_T48 y441 x5).f5, (rd_T48 y441 x5).f6, (rd_T48 y441 x5).f7⟩ : S48) : List (S48))).bind fun y442 => ((some (y442.set (x5 : Int).toNat (⟨(rd_T48 y442 x5).f0, (rd_T48 y442 x5).f1, (rd_T48 y442 x5).f2, ((Int.tmod (wrap64 ((wrap64 ((wrap64 (x1 + 1)) + 1)) + 1)) 3) == 0), (rd_T48 y442 x5).f4, (rd_T48 y442 x5).f5, (rd_T48 y442 x5).f6, (rd_T48 y442 x5).f7⟩ : S48) : List (S48))).bind fun y443 => ((some (y443.set (x5 : Int).toNat (⟨(rd_T48 y443 x5).f0, (rd_T48 y443 x5).f1, (rd_T48 y443 x5).f2, (rd_T48 y443 x5).f3, wrap64 ((wrap64 ((wrap64 ((wrap64 (x1 + 1)) + 1)) + 1)) + 1), (rd_T48 y443 x5).f5, (rd_T48 y443 x5).f6, (rd_T48 y443 x5).f7⟩ : S48) : List (S48))).bind fun y444 => ((some (y444.set (x5 : Int).toNat (⟨(rd_T48 y444 x5).f0, (rd_T48 y444 x5).f1, (rd_T48 y444 x5).f2, (rd_T48 y444 x5).f3, (rd_T48 y444 x5).f4, ((Int.tmod (wrap64 ((wrap64 ((wrap64 ((wrap64 ((wrap64 (x1 + 1)) + 1)) + 1)) + 1)) + 1)) 3) == 0), (rd_T48 y444 x5).f6, (rd_T48 y444 x5).f7⟩ : S48) : List (S48))).bind fun y445 => ((some (y445.set (x5 : Int).toNat (⟨(rd_T48 y445 x5).f0, (rd_T48 y445 x5).f1, (rd_T48 y445 x5).f2, (rd_T48 y445 x5).f3, (rd_T48 y445 x5).f4, (rd_T48 y445 x5).f5, wrap64 ((wrap64 ((wrap64 ((wrap64 ((wrap64 ((wrap64 (x1 + 1)) + 1)) + 1)) + 1)) + 1)) + 1), (rd_T48 y445 x5).f7⟩ : S48) : List (S48))).bind fun y446 => (laws_markRecS.l0 k (y446.set (x5 : Int).toNat (⟨(rd_T48 y446 x5).f0, (rd_T48 y446 x5).f1, (rd_T48 y446 x5).f2, (rd_T48 y446 x5).f3, (rd_T48 y446 x5).f4, (rd_T48 y446 x5).f5, (rd_T48 y446 x5).f6, wrap64 ((wrap64 ((wrap64 ((wrap64 ((wrap64 ((wrap64 ((wrap64 (x1 + 1)) + 1)) + 1)) + 1)) + 1)) + 1)) + 1)⟩ : S48)) (wrap64 ((wrap64 ((wrap64 ((wrap64 ((wrap64 ((wrap64 ((wrap64 ((wrap64 (x1 + 1)) + 1)) + 1)) + 1)) + 1)) + 1)) + 1)) + 1)) (wrap64 (x5 + 1)))))))))) else (none)) else (some (x1, x0))
def laws_markRecS.f (k : Nat) (l0 : List (S48)) (a1 : Int) : Option (Int × (List (S48))) := laws_markRecS.l0 k l0 a1 0

/-! ### spec_UnpackRecs: function 28 -/
def spec_UnpackRecs.f (k : Nat) (l0 : List Int) : Option (Int × Int × (List (S48))) := if (l0.length : Int) > 4000 then (some (2, 0, ([] : List (S48)))) else ((spec_l3Recs.f k l0).bind fun bt684 => (some (0, bt684.2, bt684.1)))

/-! ### impl_UnpackRecs: function 30 -/
def impl_UnpackRecs.f (k : Nat) (l0 : List Int) : Option (Int × Int × (List (S48))) := if (l0.length : Int) > 4000 then (some (2, 0, ([] : List (S48)))) else ((impl_unpack.f k l0).bind fun t689 => (some (0, wrap64 (13 * (t689.length : Int)), t689)))

/-! ### spec_l3Count: function 70 -/
def spec_l3Count.f (l0_0 : List Int) (l0_1 : List Int) : Option (Int) := some (wrap64 (Int.tdiv (wrap64 ((l0_0.length : Int) + (l0_1.length : Int))) 13))

/-! ### impl_Log_count: function 72 -/
def impl_Log_count.f (l0_0 : List Int) (l0_1 : List Int) : Option (Int) := some (wrap64 (Int.tdiv (wrap64 ((l0_0.length : Int) + (l0_1.length : Int))) 13))

/-! ### laws_markLog: function 39 -/
def laws_markLog.f (k : Nat) (l0_0 : List Int) (l0_1 : List Int) (a1 : Int) : Option (Int × List Int × List Int) := (laws_markByteS.f k l0_0 a1).bind fun bt777 => ((laws_markByteS.f k l0_1 bt777.1).bind fun bt779 => (some (bt779.1, bt777.2, bt779.2)))

/-! ### spec_l1Has: function 87 -/
def spec_l1Has.l0 : Nat → List Int → Int → Int → Option (Bool)
  | 0, _, _, _ => none
  | k + 1, x0, x1, x5 => if x5 < (x0.length : Int) then (if 0 ≤ x5 then (if (rd x0 x5) = x1 then (some true) else (spec_l1Has.l0 k x0 x1 (wrap64 (x5 + 1)))) else (none)) else (some false)
def spec_l1Has.f (k : Nat) (l0 : List Int) (a1 : Int) : Option (Bool) := spec_l1Has.l0 k l0 a1 0

/-! ### spec_l3Back: function 54 -/
def spec_l3Back.l0 : Nat → List (S48) → Int → List Int → List Int → Int → Option (List Int)
  | 0, _, _, _, _, _ => none
  | k + 1, x0, x1, x5, x6, x7 => if x7 ≥ 0 then (if 0 ≤ x7 then (if x7 < (x0.length : Int) then (if ((rd_T48 x0 x7).f1) = x1 then (if ((rd_T48 x0 x7).f0) = 5 then (if x5.length < 17592186044416 then ((some (x5 ++ [(rd_T48 x0 x7).f7] : List Int)).bind fun y387 => (if ((rd_T48 x0 x7).f0) = 2 then ((spec_l1Has.f k y387 (wrap64 (x7 + 1))).bind fun t390 => (if t390 = true then (spec_l3Back.l0 k x0 x1 y387 x6 (wrap64 (x7 - 1))) else (if x6.length < 17592186044416 then (spec_l3Back.l0 k x0 x1 y387 (x6 ++ [wrap64 (x7 + 1)]) (wrap64 (x7 - 1))) else (none)))) else (spec_l3Back.l0 k x0 x1 y387 x6 (wrap64 (x7 - 1))))) else (none)) else (if ((rd_T48 x0 x7).f0) = 2 then ((spec_l1Has.f k x5 (wrap64 (x7 + 1))).bind fun t394 => (if t394 = true then (spec_l3Back.l0 k x0 x1 x5 x6 (wrap64 (x7 - 1))) else (if x6.length < 17592186044416 then (spec_l3Back.l0 k x0 x1 x5 (x6 ++ [wrap64 (x7 + 1)]) (wrap64 (x7 - 1))) else (none)))) else (spec_l3Back.l0 k x0 x1 x5 x6 (wrap64 (x7 - 1))))) else (spec_l3Back.l0 k x0 x1 x5 x6 (wrap64 (x7 - 1)))) else (none)) else (none)) else (some x6)
def spec_l3Back.f (k : Nat) (l0 : List (S48)) (a1 : Int) : Option (List Int) := spec_l3Back.l0 k l0 a1 (([] : List Int)) (([] : List Int)) (wrap64 ((l0.length : Int) - 1))

/-! ### spec_ChainBack: function 17 -/
def spec_ChainBack.l0 : Nat → List (S48) → Int → Int → Option (Int × List Int)
  | 0, _, _, _ => none
  | k + 1, x0, x1, x5 => if x5 < (x0.length : Int) then (if 0 ≤ x5 then ((spec_RecFault.f k ((rd_T48 x0 x5).f0) ((rd_T48 x0 x5).f1) ((rd_T48 x0 x5).f2) ((rd_T48 x0 x5).f3) ((rd_T48 x0 x5).f4) ((rd_T48 x0 x5).f5) ((rd_T48 x0 x5).f6) ((rd_T48 x0 x5).f7)).bind fun t400 => (if t400 = 0 then (spec_ChainBack.l0 k x0 x1 (wrap64 (x5 + 1))) else (some (t400, ([] : List Int))))) else (none)) else ((spec_l3Txn.f x1).bind fun t401 => (if t401 = true then ((spec_l3Back.f k x0 x1).bind fun t402 => (some (0, t402))) else (some (3, ([] : List Int)))))
def spec_ChainBack.f (k : Nat) (l0 : List (S48)) (a1 : Int) : Option (Int × List Int) := if (l0.length : Int) > 400 then (some (2, ([] : List Int))) else (spec_ChainBack.l0 k l0 a1 0)

/-! ### impl_recsFault: function 56 -/
def impl_recsFault.l0 : Nat → List (S48) → Int → Int → Option (Int)
  | 0, _, _, _ => none
  | k + 1, x9, x10, x11 => if x11 < x10 then (if 0 ≤ x11 then (if x11 < (x9.length : Int) then ((impl_RecFault.f k ((rd_T48 x9 x11).f0) ((rd_T48 x9 x11).f1) ((rd_T48 x9 x11).f2) ((rd_T48 x9 x11).f3) ((rd_T48 x9 x11).f4) ((rd_T48 x9 x11).f5) ((rd_T48 x9 x11).f6) ((rd_T48 x9 x11).f7)).bind fun t423 => (if t423 = 0 then (impl_recsFault.l0 k x9 x10 (wrap64 (x11 + 1))) else (some t423))) else (none)) else (none)) else (some 0)
def impl_recsFault.f (k : Nat) (l0 : List (S48)) : Option (Int) := if (l0.length : Int) > 400 then (some 2) else (impl_recsFault.l0 k l0 (l0.length : Int) 0)

/-! ### slices_IndexFunc_impl_Rec: function 102 -/

/-! ### slices_ContainsFunc_impl_Rec: function 88 -/

/-! ### impl_chain: function 58 -/
def impl_chain.p (txn n : Int) (x : S48) : Bool := x.f0 == 5 && (x.f1 == txn && x.f7 == n)
def impl_chain.hit (l0 : List S48) (a1 : Int) (m : Nat) : Bool := ((l0.getD m z48).f0 == 2 && (l0.getD m z48).f1 == a1) && !(l0.drop (m + 1)).any (impl_chain.p a1 ((m : Int) + 1))
def impl_chain.go (l0 : List S48) (a1 : Int) : Nat → List Int → List Int
  | 0, out => out
  | m + 1, out => impl_chain.go l0 a1 m (if impl_chain.hit l0 a1 m = true then out ++ [(m : Int) + 1] else out)
def impl_chain.f (l0 : List S48) (a1 : Int) : Option (List Int) := if l0.length < 17592186044416 then some (impl_chain.go l0 a1 l0.length []) else none

/-! ### impl_ChainBack: function 19 -/
def impl_ChainBack.j0 : Nat → List (S48) → Int → Int → Bool → Option (Int × List Int)
  | 0, _, _, _, _ => none
  | k + 1, x0, x1, x5, x14 => if x14 = true then (some (3, ([] : List Int))) else (if x5 = 0 then ((impl_chain.f x0 x1).bind fun t427 => (some (0, t427))) else (some (x5, ([] : List Int))))
def impl_ChainBack.f (k : Nat) (l0 : List (S48)) (a1 : Int) : Option (Int × List Int) := (impl_recsFault.f k l0).bind fun t425 => (if t425 = 0 then ((impl_isTxn.f a1).bind fun t426 => (impl_ChainBack.j0 k l0 a1 t425 (!t426))) else (impl_ChainBack.j0 k l0 a1 t425 false))

end Go.Proofs.Ythagppmaofcllaa.P
