-- Printed by this session's own program over the kit's print (wip/tools/mp.py). Not trusted: Lean checks it.
import Derived.Test.YthagppmaofcllaaP0
import Derived.Test.YthagppmaofcllaaPDadefgh0
import Derived.Test.YthagppmaofcllaaPDall0
import Derived.Shelf.Spec.SlicesGrow
namespace Go.Proofs.Ythagppmaofcllaa.P
open Go.RowKit Go.Proofs.YthagppmaofcllaaW.PrintWords Go.Proofs.YthagppmaofcllaaW.PrintLast Go.Proofs.YthagppmaofcllaaW.PrintMore
attribute [local go_sem] max2_int min2_int max_two min_two max_three min_three max_four min_four   -- for this text's walks alone
set_option linter.unusedVariables false
set_option linter.unusedSimpArgs false

/-! ### ZltoByteS: function 29 -/
def ZltoByteS.l0 : Nat → List Int → List Int → Int → Option (List Int)
  | 0, _, _, _ => none
  | k + 1, x0, x3, x4 => if x4 < (x0.length : Int) then (if 0 ≤ x4 then (if x4 < (x3.length : Int) then (ZltoByteS.l0 k x0 (x3.set (x4 : Int).toNat (rd x0 x4)) (wrap64 (x4 + 1))) else (none)) else (none)) else (some x3)
def ZltoByteS.f (k : Nat) (l0 : List Int) : Option (List Int) := if 0 ≤ (l0.length : Int) then (if ((l0.length : Int) : Int).toNat ≤ 281474976710656 then (ZltoByteS.l0 k l0 (List.replicate ((l0.length : Int) : Int).toNat 0) 0) else (none)) else (none)

/-! ### ZleqByteS: function 32 -/
def ZleqByteS.l0 : Nat → List Int → List Int → Int → Option (Bool)
  | 0, _, _, _ => none
  | k + 1, x0, x1, x5 => if x5 < (x0.length : Int) then (if 0 ≤ x5 then (if x5 < (x1.length : Int) then (if (rd x0 x5) = (rd x1 x5) then (ZleqByteS.l0 k x0 x1 (wrap64 (x5 + 1))) else (some false)) else (none)) else (none)) else (some true)
def ZleqByteS.f (k : Nat) (l0 : List Int) (l1 : List Int) : Option (Bool) := if (l0.length : Int) = (l1.length : Int) then (ZleqByteS.l0 k l0 l1 0) else (some false)

/-! ### Zsl3All: function 48 -/
def Zsl3All.f (l0_0 : List Int) (l0_1 : List Int) : Option (List Int) := (some (([] : List Int) : List Int)).bind fun y105 => (if y105.length + l0_0.length < 140737488355328 then ((some (y105 ++ l0_0 : List Int)).bind fun y108 => (if y108.length + l0_1.length < 140737488355328 then (some (y108 ++ l0_1)) else (none))) else (none))

/-! ### ZsLogFault: function 12 -/
def ZsLogFault.f (k : Nat) (l0_0 : List Int) (l0_1 : List Int) : Option (Int) := if (wrap64 ((l0_0.length : Int) + (l0_1.length : Int))) > 4000 then (some 2) else ((Zsl3All.f l0_0 l0_1).bind fun t198 => ((Zsl3Recs.f k t198).bind fun bt201 => (if bt201.2 = (t198.length : Int) then (some 0) else (some 5))))

/-! ### ZcGrow_byte: function 92 -/
-- NEEDS Derived.Shelf.Spec.SlicesGrow
def ZcGrow_byte.f (l0 : List (Int)) (a1 : Int) : Option (List (Int)) := if 0 ≤ a1 then (if l0.length + a1.toNat ≤ 140737488355328 then some l0 else none) else none

/-! ### ZcConcat_byte: function 77 -/
mutual
def ZcConcat_byte.l0 : Nat → List (List Int) → Int → List (List Int) → Int → Int → Option (List Int)
  | 0, _, _, _, _, _ => none
  | k + 1, x0, x3, x9, x10, x11 => if x11 < x10 then (if 0 ≤ x11 then (if x11 < (x9.length : Int) then (if (wrap64 (x3 + ((rd_L4 x9 x11).length : Int))) < 0 then (none) else (ZcConcat_byte.l0 k x0 (wrap64 (x3 + ((rd_L4 x9 x11).length : Int))) x9 x10 (wrap64 (x11 + 1)))) else (none)) else (none)) else ((ZcGrow_byte.f ([] : List Int) x3).bind fun t220 => (ZcConcat_byte.l1 k t220 x0 (x0.length : Int) 0))
def ZcConcat_byte.l1 : Nat → List Int → List (List Int) → Int → Int → Option (List Int)
  | 0, _, _, _, _ => none
  | k + 1, x6, x25, x26, x27 => if x27 < x26 then (if 0 ≤ x27 then (if x27 < (x25.length : Int) then (if x6.length + (rd_L4 x25 x27).length < 140737488355328 then (ZcConcat_byte.l1 k (x6 ++ (rd_L4 x25 x27)) x25 x26 (wrap64 (x27 + 1))) else (none)) else (none)) else (none)) else (some x6)
end
def ZcConcat_byte.f (k : Nat) (l0 : List (List Int)) : Option (List Int) := ZcConcat_byte.l0 k l0 0 l0 (l0.length : Int) 0

/-! ### ZiLog_all: function 50 -/
def ZiLog_all.f (k : Nat) (l0_0 : List Int) (l0_1 : List Int) : Option (List Int) := (ZcConcat_byte.f k (([l0_0, l0_1] : List (List Int)))).bind fun t231 => (some t231)

/-! ### ZiLogFault: function 14 -/
def ZiLogFault.f (k : Nat) (l0_0 : List Int) (l0_1 : List Int) : Option (Int) := (ZiLog_all.f k l0_0 l0_1).bind fun t342 => (if (t342.length : Int) > 4000 then (some 2) else ((Ziunpack.f k t342).bind fun t345 => (if (wrap64 (13 * (t345.length : Int))) = (t342.length : Int) then (some 0) else (some 5))))

/-! ### ZlszByteS: function 47 -/
def ZlszByteS.f (l0 : List Int) (a1 : Int) : Option (Int) := if (wrap64 (a1 - (l0.length : Int))) < 0 then (some (-1)) else (some (wrap64 (a1 - (l0.length : Int))))

/-! ### ZlszLog: function 11 -/
def ZlszLog.f (l0_0 : List Int) (l0_1 : List Int) (a1 : Int) : Option (Int) := (ZlszByteS.f l0_0 a1).bind fun t102 => (if t102 < 0 then (some (-1)) else ((ZlszByteS.f l0_1 t102).bind fun t103 => (if t103 < 0 then (some (-1)) else (some t103))))

/-! ### ZltoLog: function 13 -/
def ZltoLog.f (k : Nat) (l0_0 : List Int) (l0_1 : List Int) : Option (List Int × List Int) := (ZltoByteS.f k l0_0).bind fun t213 => ((ZltoByteS.f k l0_1).bind fun t216 => (some (t213, t216)))

/-! ### ZleqLog: function 15 -/
def ZleqLog.f (k : Nat) (l0_0 : List Int) (l0_1 : List Int) (l1_0 : List Int) (l1_1 : List Int) : Option (Bool) := (ZleqByteS.f k l0_0 l1_0).bind fun t352 => (if t352 = true then ((ZleqByteS.f k l0_1 l1_1).bind fun t353 => (if t353 = true then (some true) else (some false))) else (some false))

/-! ### ZlmarkByteS: function 33 -/
def ZlmarkByteS.l0 : Nat → List Int → Int → Int → Option (Int × List Int)
  | 0, _, _, _ => none
  | k + 1, x0, x1, x5 => if x5 < (x0.length : Int) then (if 0 ≤ x5 then (ZlmarkByteS.l0 k (x0.set (x5 : Int).toNat ((x1) % 256)) (wrap64 (x1 + 1)) (wrap64 (x5 + 1))) else (none)) else (some (x1, x0))
def ZlmarkByteS.f (k : Nat) (l0 : List Int) (a1 : Int) : Option (Int × List Int) := ZlmarkByteS.l0 k l0 a1 0

/-! ### ZleqRec: function 60 -/
def ZleqRec.f (a0_0 : Int) (a0_1 : Int) (a0_2 : Int) (a0_3 : Bool) (a0_4 : Int) (a0_5 : Bool) (a0_6 : Int) (a0_7 : Int) (a1_0 : Int) (a1_1 : Int) (a1_2 : Int) (a1_3 : Bool) (a1_4 : Int) (a1_5 : Bool) (a1_6 : Int) (a1_7 : Int) : Option (Bool) := if a0_0 = a1_0 then (if a0_1 = a1_1 then (if a0_2 = a1_2 then (if (a0_3 != a1_3) = true then (some false) else (if a0_4 = a1_4 then (if (a0_5 != a1_5) = true then (some false) else (if a0_6 = a1_6 then (if a0_7 = a1_7 then (some true) else (some false)) else (some false))) else (some false))) else (some false)) else (some false)) else (some false)

/-! ### ZleqRecS: function 21 -/
def ZleqRecS.l0 : Nat → List (S48) → List (S48) → Int → Option (Bool)
  | 0, _, _, _ => none
  | k + 1, x0, x1, x5 => if x5 < (x0.length : Int) then (if 0 ≤ x5 then (if x5 < (x1.length : Int) then ((ZleqRec.f ((rd_T48 x0 x5).f0) ((rd_T48 x0 x5).f1) ((rd_T48 x0 x5).f2) ((rd_T48 x0 x5).f3) ((rd_T48 x0 x5).f4) ((rd_T48 x0 x5).f5) ((rd_T48 x0 x5).f6) ((rd_T48 x0 x5).f7) ((rd_T48 x1 x5).f0) ((rd_T48 x1 x5).f1) ((rd_T48 x1 x5).f2) ((rd_T48 x1 x5).f3) ((rd_T48 x1 x5).f4) ((rd_T48 x1 x5).f5) ((rd_T48 x1 x5).f6) ((rd_T48 x1 x5).f7)).bind fun t439 => (if t439 = true then (ZleqRecS.l0 k x0 x1 (wrap64 (x5 + 1))) else (some false))) else (none)) else (none)) else (some true)
def ZleqRecS.f (k : Nat) (l0 : List (S48)) (l1 : List (S48)) : Option (Bool) := if (l0.length : Int) = (l1.length : Int) then (ZleqRecS.l0 k l0 l1 0) else (some false)

/-! ### ZlmarkRecS: function 22 -/
def ZlmarkRecS.l0 : Nat → List (S48) → Int → Int → Option (Int × (List (S48)))
  | 0, _, _, _ => none
  | k + 1, x0, x1, x5 => if x5 < (x0.length : Int) then (if 0 ≤ x5 then ((some (x0.set (x5 : Int).toNat (⟨x1, (rd_T48 x0 x5).f1, (rd_T48 x0 x5).f2, (rd_T48 x0 x5).f3, (rd_T48 x0 x5).f4, (rd_T48 x0 x5).f5, (rd_T48 x0 x5).f6, (rd_T48 x0 x5).f7⟩ : S48) : List (S48))).bind fun y440 => ((some (y440.set (x5 : Int).toNat (⟨(rd_T48 y440 x5).f0, wrap64 (x1 + 1), (rd_T48 y440 x5).f2, (rd_T48 y440 x5).f3, (rd_T48 y440 x5).f4, (rd_T48 y440 x5).f5, (rd_T48 y440 x5).f6, (rd_T48 y440 x5).f7⟩ : S48) : List (S48))).bind fun y441 => ((some (y441.set (x5 : Int).toNat (⟨(rd_T48 y441 x5).f0, (rd_T48 y441 x5).f1, wrap64 ((wrap64 (x1 + 1)) + 1), (rd_T48 y441 x5).f3, (rd_T48 y441 x5).f4, (rd_T48 y441 x5).f5, (rd_T48 y441 x5).f6, (rd_T48 y441 x5).f7⟩ : S48) : List (S48))).bind fun y442 => ((some (y442.set (x5 : Int).toNat (⟨(rd_T48 y442 x5).f0, (rd_T48 y442 x5).f1, (rd_T48 y442 x5).f2, ((Int.tmod (wrap64 ((wrap64 ((wrap64 (x1 + 1)) + 1)) + 1)) 3) == 0), (rd_T48 y442 x5).f4, (rd_T48 y442 x5).f5, (rd_T48 y442 x5).f6, (rd_T48 y442 x5).f7⟩ : S48) : List (S48))).bind fun y443 => ((some (y443.set (x5 : Int).toNat (⟨(rd_T48 y443 x5).f0, (rd_T48 y443 x5).f1, (rd_T48 y443 x5).f2, (rd_T48 y443 x5).f3, wrap64 ((wrap64 ((wrap64 ((wrap64 (x1 + 1)) + 1)) + 1)) + 1), (rd_T48 y443 x5).f5, (rd_T48 y443 x5).f6, (rd_T48 y443 x5).f7⟩ : S48) : List (S48))).bind fun y444 => ((some (y444.set (x5 : Int).toNat (⟨(rd_T48 y444 x5).f0, (rd_T48 y444 x5).f1, (rd_T48 y444 x5).f2, (rd_T48 y444 x5).f3, (rd_T48 y444 x5).f4, ((Int.tmod (wrap64 ((wrap64 ((wrap64 ((wrap64 ((wrap64 (x1 + 1)) + 1)) + 1)) + 1)) + 1)) 3) == 0), (rd_T48 y444 x5).f6, (rd_T48 y444 x5).f7⟩ : S48) : List (S48))).bind fun y445 => ((some (y445.set (x5 : Int).toNat (⟨(rd_T48 y445 x5).f0, (rd_T48 y445 x5).f1, (rd_T48 y445 x5).f2, (rd_T48 y445 x5).f3, (rd_T48 y445 x5).f4, (rd_T48 y445 x5).f5, wrap64 ((wrap64 ((wrap64 ((wrap64 ((wrap64 ((wrap64 (x1 + 1)) + 1)) + 1)) + 1)) + 1)) + 1), (rd_T48 y445 x5).f7⟩ : S48) : List (S48))).bind fun y446 => (ZlmarkRecS.l0 k (y446.set (x5 : Int).toNat (⟨(rd_T48 y446 x5).f0, (rd_T48 y446 x5).f1, (rd_T48 y446 x5).f2, (rd_T48 y446 x5).f3, (rd_T48 y446 x5).f4, (rd_T48 y446 x5).f5, (rd_T48 y446 x5).f6, wrap64 ((wrap64 ((wrap64 ((wrap64 ((wrap64 ((wrap64 ((wrap64 (x1 + 1)) + 1)) + 1)) + 1)) + 1)) + 1)) + 1)⟩ : S48)) (wrap64 ((wrap64 ((wrap64 ((wrap64 ((wrap64 ((wrap64 ((wrap64 ((wrap64 (x1 + 1)) + 1)) + 1)) + 1)) + 1)) + 1)) + 1)) + 1)) (wrap64 (x5 + 1)))))))))) else (none)) else (some (x1, x0))
def ZlmarkRecS.f (k : Nat) (l0 : List (S48)) (a1 : Int) : Option (Int × (List (S48))) := ZlmarkRecS.l0 k l0 a1 0

/-! ### ZsUnpackRecs: function 28 -/
def ZsUnpackRecs.f (k : Nat) (l0 : List Int) : Option (Int × Int × (List (S48))) := if (l0.length : Int) > 4000 then (some (2, 0, ([] : List (S48)))) else ((Zsl3Recs.f k l0).bind fun bt684 => (some (0, bt684.2, bt684.1)))

/-! ### ZiUnpackRecs: function 30 -/
def ZiUnpackRecs.f (k : Nat) (l0 : List Int) : Option (Int × Int × (List (S48))) := if (l0.length : Int) > 4000 then (some (2, 0, ([] : List (S48)))) else ((Ziunpack.f k l0).bind fun t689 => (some (0, wrap64 (13 * (t689.length : Int)), t689)))

/-! ### Zsl3Count: function 70 -/
def Zsl3Count.f (l0_0 : List Int) (l0_1 : List Int) : Option (Int) := some (wrap64 (Int.tdiv (wrap64 ((l0_0.length : Int) + (l0_1.length : Int))) 13))

/-! ### ZiLog_count: function 72 -/
def ZiLog_count.f (l0_0 : List Int) (l0_1 : List Int) : Option (Int) := some (wrap64 (Int.tdiv (wrap64 ((l0_0.length : Int) + (l0_1.length : Int))) 13))

/-! ### ZlmarkLog: function 39 -/
def ZlmarkLog.f (k : Nat) (l0_0 : List Int) (l0_1 : List Int) (a1 : Int) : Option (Int × List Int × List Int) := (ZlmarkByteS.f k l0_0 a1).bind fun bt777 => ((ZlmarkByteS.f k l0_1 bt777.1).bind fun bt779 => (some (bt779.1, bt777.2, bt779.2)))

/-! ### Zsl1Has: function 87 -/
def Zsl1Has.l0 : Nat → List Int → Int → Int → Option (Bool)
  | 0, _, _, _ => none
  | k + 1, x0, x1, x5 => if x5 < (x0.length : Int) then (if 0 ≤ x5 then (if (rd x0 x5) = x1 then (some true) else (Zsl1Has.l0 k x0 x1 (wrap64 (x5 + 1)))) else (none)) else (some false)
def Zsl1Has.f (k : Nat) (l0 : List Int) (a1 : Int) : Option (Bool) := Zsl1Has.l0 k l0 a1 0

/-! ### Zsl3Back: function 54 -/
def Zsl3Back.l0 : Nat → List (S48) → Int → List Int → List Int → Int → Option (List Int)
  | 0, _, _, _, _, _ => none
  | k + 1, x0, x1, x5, x6, x7 => if x7 ≥ 0 then (if 0 ≤ x7 then (if x7 < (x0.length : Int) then (if ((rd_T48 x0 x7).f1) = x1 then (if ((rd_T48 x0 x7).f0) = 5 then (if x5.length < 17592186044416 then ((some (x5 ++ [(rd_T48 x0 x7).f7] : List Int)).bind fun y387 => (if ((rd_T48 x0 x7).f0) = 2 then ((Zsl1Has.f k y387 (wrap64 (x7 + 1))).bind fun t390 => (if t390 = true then (Zsl3Back.l0 k x0 x1 y387 x6 (wrap64 (x7 - 1))) else (if x6.length < 17592186044416 then (Zsl3Back.l0 k x0 x1 y387 (x6 ++ [wrap64 (x7 + 1)]) (wrap64 (x7 - 1))) else (none)))) else (Zsl3Back.l0 k x0 x1 y387 x6 (wrap64 (x7 - 1))))) else (none)) else (if ((rd_T48 x0 x7).f0) = 2 then ((Zsl1Has.f k x5 (wrap64 (x7 + 1))).bind fun t394 => (if t394 = true then (Zsl3Back.l0 k x0 x1 x5 x6 (wrap64 (x7 - 1))) else (if x6.length < 17592186044416 then (Zsl3Back.l0 k x0 x1 x5 (x6 ++ [wrap64 (x7 + 1)]) (wrap64 (x7 - 1))) else (none)))) else (Zsl3Back.l0 k x0 x1 x5 x6 (wrap64 (x7 - 1))))) else (Zsl3Back.l0 k x0 x1 x5 x6 (wrap64 (x7 - 1)))) else (none)) else (none)) else (some x6)
def Zsl3Back.f (k : Nat) (l0 : List (S48)) (a1 : Int) : Option (List Int) := Zsl3Back.l0 k l0 a1 (([] : List Int)) (([] : List Int)) (wrap64 ((l0.length : Int) - 1))

/-! ### ZsChainBack: function 17 -/
def ZsChainBack.l0 : Nat → List (S48) → Int → Int → Option (Int × List Int)
  | 0, _, _, _ => none
  | k + 1, x0, x1, x5 => if x5 < (x0.length : Int) then (if 0 ≤ x5 then ((ZsRecFault.f k ((rd_T48 x0 x5).f0) ((rd_T48 x0 x5).f1) ((rd_T48 x0 x5).f2) ((rd_T48 x0 x5).f3) ((rd_T48 x0 x5).f4) ((rd_T48 x0 x5).f5) ((rd_T48 x0 x5).f6) ((rd_T48 x0 x5).f7)).bind fun t400 => (if t400 = 0 then (ZsChainBack.l0 k x0 x1 (wrap64 (x5 + 1))) else (some (t400, ([] : List Int))))) else (none)) else ((Zsl3Txn.f x1).bind fun t401 => (if t401 = true then ((Zsl3Back.f k x0 x1).bind fun t402 => (some (0, t402))) else (some (3, ([] : List Int)))))
def ZsChainBack.f (k : Nat) (l0 : List (S48)) (a1 : Int) : Option (Int × List Int) := if (l0.length : Int) > 400 then (some (2, ([] : List Int))) else (ZsChainBack.l0 k l0 a1 0)

/-! ### ZirecsFault: function 56 -/
def ZirecsFault.l0 : Nat → List (S48) → Int → Int → Option (Int)
  | 0, _, _, _ => none
  | k + 1, x9, x10, x11 => if x11 < x10 then (if 0 ≤ x11 then (if x11 < (x9.length : Int) then ((ZiRecFault.f k ((rd_T48 x9 x11).f0) ((rd_T48 x9 x11).f1) ((rd_T48 x9 x11).f2) ((rd_T48 x9 x11).f3) ((rd_T48 x9 x11).f4) ((rd_T48 x9 x11).f5) ((rd_T48 x9 x11).f6) ((rd_T48 x9 x11).f7)).bind fun t423 => (if t423 = 0 then (ZirecsFault.l0 k x9 x10 (wrap64 (x11 + 1))) else (some t423))) else (none)) else (none)) else (some 0)
def ZirecsFault.f (k : Nat) (l0 : List (S48)) : Option (Int) := if (l0.length : Int) > 400 then (some 2) else (ZirecsFault.l0 k l0 (l0.length : Int) 0)

/-! ### ZcIndexFunc_impl_Rec: function 102 -/

/-! ### ZcContainsFunc_impl_Rec: function 88 -/

/-! ### Zichain: function 58 -/
def Zichain.p (txn n : Int) (x : S48) : Bool := x.f0 == 5 && (x.f1 == txn && x.f7 == n)
def Zichain.hit (l0 : List S48) (a1 : Int) (m : Nat) : Bool := ((l0.getD m z48).f0 == 2 && (l0.getD m z48).f1 == a1) && !(l0.drop (m + 1)).any (Zichain.p a1 ((m : Int) + 1))
def Zichain.go (l0 : List S48) (a1 : Int) : Nat → List Int → List Int
  | 0, out => out
  | m + 1, out => Zichain.go l0 a1 m (if Zichain.hit l0 a1 m = true then out ++ [(m : Int) + 1] else out)
def Zichain.f (l0 : List S48) (a1 : Int) : Option (List Int) := if l0.length < 17592186044416 then some (Zichain.go l0 a1 l0.length []) else none

/-! ### ZiChainBack: function 19 -/
def ZiChainBack.j0 : Nat → List (S48) → Int → Int → Bool → Option (Int × List Int)
  | 0, _, _, _, _ => none
  | k + 1, x0, x1, x5, x14 => if x14 = true then (some (3, ([] : List Int))) else (if x5 = 0 then ((Zichain.f x0 x1).bind fun t427 => (some (0, t427))) else (some (x5, ([] : List Int))))
def ZiChainBack.f (k : Nat) (l0 : List (S48)) (a1 : Int) : Option (Int × List Int) := (ZirecsFault.f k l0).bind fun t425 => (if t425 = 0 then ((ZiisTxn.f a1).bind fun t426 => (ZiChainBack.j0 k l0 a1 t425 (!t426))) else (ZiChainBack.j0 k l0 a1 t425 false))

end Go.Proofs.Ythagppmaofcllaa.P
