import Derived.Test.YthagppmaofcllaaP0
import Derived.Test.YthagppmaofcllaaPDadefgh0
import Derived.Test.YthagppmaofcllaaPDall0
import Derived.Shelf.Spec.SlicesGrow
namespace Go.Proofs.Ythagppmaofcllaa.P
open Go.RowKit Go.Proofs.YthagppmaofcllaaW.PrintWords Go.Proofs.YthagppmaofcllaaW.PrintLast Go.Proofs.YthagppmaofcllaaW.PrintMore
attribute [local go_sem] max2_int min2_int max_two min_two max_three min_three max_four min_four   -- for this text's walks alone
set_option linter.unusedVariables false
set_option linter.unusedSimpArgs false
def ZltoByteS.l0 : Nat → List Int → List Int → Int → Option (List Int)
  | 0, _, _, _ => none
  | k + 1, x0, x3, x4 => if x4 < (x0.length : Int) then (if 0 ≤ x4 then (if x4 < (x3.length : Int) then (ZltoByteS.l0 k x0 (x3.set (x4 : Int).toNat (rd x0 x4)) (wrap64 (x4 + 1))) else (none)) else (none)) else (some x3)
def ZltoByteS.f (k : Nat) (l0 : List Int) : Option (List Int) := if 0 ≤ (l0.length : Int) then (if ((l0.length : Int) : Int).toNat ≤ 281474976710656 then (ZltoByteS.l0 k l0 (List.replicate ((l0.length : Int) : Int).toNat 0) 0) else (none)) else (none)
def ZleqByteS.l0 : Nat → List Int → List Int → Int → Option (Bool)
  | 0, _, _, _ => none
  | k + 1, x0, x1, x5 => if x5 < (x0.length : Int) then (if 0 ≤ x5 then (if x5 < (x1.length : Int) then (if (rd x0 x5) = (rd x1 x5) then (ZleqByteS.l0 k x0 x1 (wrap64 (x5 + 1))) else (some false)) else (none)) else (none)) else (some true)
def ZleqByteS.f (k : Nat) (l0 : List Int) (l1 : List Int) : Option (Bool) := if (l0.length : Int) = (l1.length : Int) then (ZleqByteS.l0 k l0 l1 0) else (some false)
def Zsl3All.f (l0_0 : List Int) (l0_1 : List Int) : Option (List Int) := (some (([] : List Int) : List Int)).bind fun y2 => (if y2.length + l0_0.length < 140737488355328 then ((some (y2 ++ l0_0 : List Int)).bind fun y4 => (if y4.length + l0_1.length < 140737488355328 then (some (y4 ++ l0_1)) else (none))) else (none))
def ZsLogFault.f (k : Nat) (l0_0 : List Int) (l0_1 : List Int) : Option (Int) := if (wrap64 ((l0_0.length : Int) + (l0_1.length : Int))) > 4000 then (some 2) else ((Zsl3All.f l0_0 l0_1).bind fun t4 => ((Zsl3Recs.f k t4).bind fun bt6 => (if bt6.2 = (t4.length : Int) then (some 0) else (some 5))))
def ZcGrow_byte.f (l0 : List (Int)) (a1 : Int) : Option (List (Int)) := if 0 ≤ a1 then (if l0.length + a1.toNat ≤ 140737488355328 then some l0 else none) else none
mutual
def ZcConcat_byte.l0 : Nat → List (List Int) → Int → List (List Int) → Int → Int → Option (List Int)
  | 0, _, _, _, _, _ => none
  | k + 1, x0, x3, x9, x10, x11 => if x11 < x10 then (if 0 ≤ x11 then (if x11 < (x9.length : Int) then (if (wrap64 (x3 + ((rd_L4 x9 x11).length : Int))) < 0 then (none) else (ZcConcat_byte.l0 k x0 (wrap64 (x3 + ((rd_L4 x9 x11).length : Int))) x9 x10 (wrap64 (x11 + 1)))) else (none)) else (none)) else ((ZcGrow_byte.f ([] : List Int) x3).bind fun t2 => (ZcConcat_byte.l1 k t2 x0 (x0.length : Int) 0))
def ZcConcat_byte.l1 : Nat → List Int → List (List Int) → Int → Int → Option (List Int)
  | 0, _, _, _, _ => none
  | k + 1, x6, x25, x26, x27 => if x27 < x26 then (if 0 ≤ x27 then (if x27 < (x25.length : Int) then (if x6.length + (rd_L4 x25 x27).length < 140737488355328 then (ZcConcat_byte.l1 k (x6 ++ (rd_L4 x25 x27)) x25 x26 (wrap64 (x27 + 1))) else (none)) else (none)) else (none)) else (some x6)
end
def ZcConcat_byte.f (k : Nat) (l0 : List (List Int)) : Option (List Int) := ZcConcat_byte.l0 k l0 0 l0 (l0.length : Int) 0
def ZiLog_all.f (k : Nat) (l0_0 : List Int) (l0_1 : List Int) : Option (List Int) := (ZcConcat_byte.f k (([l0_0, l0_1] : List (List Int)))).bind fun t2 => (some t2)
def ZiLogFault.f (k : Nat) (l0_0 : List Int) (l0_1 : List Int) : Option (Int) := (ZiLog_all.f k l0_0 l0_1).bind fun t3 => (if (t3.length : Int) > 4000 then (some 2) else ((Ziunpack.f k t3).bind fun t4 => (if (wrap64 (13 * (t4.length : Int))) = (t3.length : Int) then (some 0) else (some 5))))
def ZlszByteS.f (l0 : List Int) (a1 : Int) : Option (Int) := if (wrap64 (a1 - (l0.length : Int))) < 0 then (some (-1)) else (some (wrap64 (a1 - (l0.length : Int))))
def ZlszLog.f (l0_0 : List Int) (l0_1 : List Int) (a1 : Int) : Option (Int) := (ZlszByteS.f l0_0 a1).bind fun t2 => (if t2 < 0 then (some (-1)) else ((ZlszByteS.f l0_1 t2).bind fun t3 => (if t3 < 0 then (some (-1)) else (some t3))))
def ZltoLog.f (k : Nat) (l0_0 : List Int) (l0_1 : List Int) : Option (List Int × List Int) := (ZltoByteS.f k l0_0).bind fun t2 => ((ZltoByteS.f k l0_1).bind fun t3 => (some (t2, t3)))
def ZleqLog.f (k : Nat) (l0_0 : List Int) (l0_1 : List Int) (l1_0 : List Int) (l1_1 : List Int) : Option (Bool) := (ZleqByteS.f k l0_0 l1_0).bind fun t2 => (if t2 = true then ((ZleqByteS.f k l0_1 l1_1).bind fun t3 => (if t3 = true then (some true) else (some false))) else (some false))
def ZlmarkByteS.l0 : Nat → List Int → Int → Int → Option (Int × List Int)
  | 0, _, _, _ => none
  | k + 1, x0, x1, x5 => if x5 < (x0.length : Int) then (if 0 ≤ x5 then (ZlmarkByteS.l0 k (x0.set (x5 : Int).toNat ((x1) % 256)) (wrap64 (x1 + 1)) (wrap64 (x5 + 1))) else (none)) else (some (x1, x0))
def ZlmarkByteS.f (k : Nat) (l0 : List Int) (a1 : Int) : Option (Int × List Int) := ZlmarkByteS.l0 k l0 a1 0
def ZleqRec.f (a0_0 : Int) (a0_1 : Int) (a0_2 : Int) (a0_3 : Bool) (a0_4 : Int) (a0_5 : Bool) (a0_6 : Int) (a0_7 : Int) (a1_0 : Int) (a1_1 : Int) (a1_2 : Int) (a1_3 : Bool) (a1_4 : Int) (a1_5 : Bool) (a1_6 : Int) (a1_7 : Int) : Option (Bool) := if a0_0 = a1_0 then (if a0_1 = a1_1 then (if a0_2 = a1_2 then (if (a0_3 != a1_3) = true then (some false) else (if a0_4 = a1_4 then (if (a0_5 != a1_5) = true then (some false) else (if a0_6 = a1_6 then (if a0_7 = a1_7 then (some true) else (some false)) else (some false))) else (some false))) else (some false)) else (some false)) else (some false)
def ZleqRecS.l0 : Nat → List (S48) → List (S48) → Int → Option (Bool)
  | 0, _, _, _ => none
  | k + 1, x0, x1, x5 => if x5 < (x0.length : Int) then (if 0 ≤ x5 then (if x5 < (x1.length : Int) then ((ZleqRec.f ((rd_T48 x0 x5).f0) ((rd_T48 x0 x5).f1) ((rd_T48 x0 x5).f2) ((rd_T48 x0 x5).f3) ((rd_T48 x0 x5).f4) ((rd_T48 x0 x5).f5) ((rd_T48 x0 x5).f6) ((rd_T48 x0 x5).f7) ((rd_T48 x1 x5).f0) ((rd_T48 x1 x5).f1) ((rd_T48 x1 x5).f2) ((rd_T48 x1 x5).f3) ((rd_T48 x1 x5).f4) ((rd_T48 x1 x5).f5) ((rd_T48 x1 x5).f6) ((rd_T48 x1 x5).f7)).bind fun t8 => (if t8 = true then (ZleqRecS.l0 k x0 x1 (wrap64 (x5 + 1))) else (some false))) else (none)) else (none)) else (some true)
def ZleqRecS.f (k : Nat) (l0 : List (S48)) (l1 : List (S48)) : Option (Bool) := if (l0.length : Int) = (l1.length : Int) then (ZleqRecS.l0 k l0 l1 0) else (some false)
def ZlmarkRecS.l0 : Nat → List (S48) → Int → Int → Option (Int × (List (S48)))
  | 0, _, _, _ => none
  | k + 1, x0, x1, x5 => if x5 < (x0.length : Int) then (if 0 ≤ x5 then ((some (x0.set (x5 : Int).toNat (⟨x1, (rd_T48 x0 x5).f1, (rd_T48 x0 x5).f2, (rd_T48 x0 x5).f3, (rd_T48 x0 x5).f4, (rd_T48 x0 x5).f5, (rd_T48 x0 x5).f6, (rd_T48 x0 x5).f7⟩ : S48) : List (S48))).bind fun y8 => ((some (y8.set (x5 : Int).toNat (⟨(rd_T48 y8 x5).f0, wrap64 (x1 + 1), (rd_T48 y8 x5).f2, (rd_T48 y8 x5).f3, (rd_T48 y8 x5).f4, (rd_T48 y8 x5).f5, (rd_T48 y8 x5).f6, (rd_T48 y8 x5).f7⟩ : S48) : List (S48))).bind fun y9 => ((some (y9.set (x5 : Int).toNat (⟨(rd_T48 y9 x5).f0, (rd_T48 y9 x5).f1, wrap64 ((wrap64 (x1 + 1)) + 1), (rd_T48 y9 x5).f3, (rd_T48 y9 x5).f4, (rd_T48 y9 x5).f5, (rd_T48 y9 x5).f6, (rd_T48 y9 x5).f7⟩ : S48) : List (S48))).bind fun y10 => ((some (y10.set (x5 : Int).toNat (⟨(rd_T48 y10 x5).f0, (rd_T48 y10 x5).f1, (rd_T48 y10 x5).f2, ((Int.tmod (wrap64 ((wrap64 ((wrap64 (x1 + 1)) + 1)) + 1)) 3) == 0), (rd_T48 y10 x5).f4, (rd_T48 y10 x5).f5, (rd_T48 y10 x5).f6, (rd_T48 y10 x5).f7⟩ : S48) : List (S48))).bind fun y11 => ((some (y11.set (x5 : Int).toNat (⟨(rd_T48 y11 x5).f0, (rd_T48 y11 x5).f1, (rd_T48 y11 x5).f2, (rd_T48 y11 x5).f3, wrap64 ((wrap64 ((wrap64 ((wrap64 (x1 + 1)) + 1)) + 1)) + 1), (rd_T48 y11 x5).f5, (rd_T48 y11 x5).f6, (rd_T48 y11 x5).f7⟩ : S48) : List (S48))).bind fun y12 => ((some (y12.set (x5 : Int).toNat (⟨(rd_T48 y12 x5).f0, (rd_T48 y12 x5).f1, (rd_T48 y12 x5).f2, (rd_T48 y12 x5).f3, (rd_T48 y12 x5).f4, ((Int.tmod (wrap64 ((wrap64 ((wrap64 ((wrap64 ((wrap64 (x1 + 1)) + 1)) + 1)) + 1)) + 1)) 3) == 0), (rd_T48 y12 x5).f6, (rd_T48 y12 x5).f7⟩ : S48) : List (S48))).bind fun y13 => ((some (y13.set (x5 : Int).toNat (⟨(rd_T48 y13 x5).f0, (rd_T48 y13 x5).f1, (rd_T48 y13 x5).f2, (rd_T48 y13 x5).f3, (rd_T48 y13 x5).f4, (rd_T48 y13 x5).f5, wrap64 ((wrap64 ((wrap64 ((wrap64 ((wrap64 ((wrap64 (x1 + 1)) + 1)) + 1)) + 1)) + 1)) + 1), (rd_T48 y13 x5).f7⟩ : S48) : List (S48))).bind fun y14 => (ZlmarkRecS.l0 k (y14.set (x5 : Int).toNat (⟨(rd_T48 y14 x5).f0, (rd_T48 y14 x5).f1, (rd_T48 y14 x5).f2, (rd_T48 y14 x5).f3, (rd_T48 y14 x5).f4, (rd_T48 y14 x5).f5, (rd_T48 y14 x5).f6, wrap64 ((wrap64 ((wrap64 ((wrap64 ((wrap64 ((wrap64 ((wrap64 (x1 + 1)) + 1)) + 1)) + 1)) + 1)) + 1)) + 1)⟩ : S48)) (wrap64 ((wrap64 ((wrap64 ((wrap64 ((wrap64 ((wrap64 ((wrap64 ((wrap64 (x1 + 1)) + 1)) + 1)) + 1)) + 1)) + 1)) + 1)) + 1)) (wrap64 (x5 + 1)))))))))) else (none)) else (some (x1, x0))
def ZlmarkRecS.f (k : Nat) (l0 : List (S48)) (a1 : Int) : Option (Int × (List (S48))) := ZlmarkRecS.l0 k l0 a1 0
def ZsUnpackRecs.f (k : Nat) (l0 : List Int) : Option (Int × Int × (List (S48))) := if (l0.length : Int) > 4000 then (some (2, 0, ([] : List (S48)))) else ((Zsl3Recs.f k l0).bind fun bt4 => (some (0, bt4.2, bt4.1)))
def ZiUnpackRecs.f (k : Nat) (l0 : List Int) : Option (Int × Int × (List (S48))) := if (l0.length : Int) > 4000 then (some (2, 0, ([] : List (S48)))) else ((Ziunpack.f k l0).bind fun t1 => (some (0, wrap64 (13 * (t1.length : Int)), t1)))
def Zsl3Count.f (l0_0 : List Int) (l0_1 : List Int) : Option (Int) := some (wrap64 (Int.tdiv (wrap64 ((l0_0.length : Int) + (l0_1.length : Int))) 13))
def ZiLog_count.f (l0_0 : List Int) (l0_1 : List Int) : Option (Int) := some (wrap64 (Int.tdiv (wrap64 ((l0_0.length : Int) + (l0_1.length : Int))) 13))
def ZlmarkLog.f (k : Nat) (l0_0 : List Int) (l0_1 : List Int) (a1 : Int) : Option (Int × List Int × List Int) := (ZlmarkByteS.f k l0_0 a1).bind fun bt3 => ((ZlmarkByteS.f k l0_1 bt3.1).bind fun bt4 => (some (bt4.1, bt3.2, bt4.2)))
def Zsl1Has.l0 : Nat → List Int → Int → Int → Option (Bool)
  | 0, _, _, _ => none
  | k + 1, x0, x1, x5 => if x5 < (x0.length : Int) then (if 0 ≤ x5 then (if (rd x0 x5) = x1 then (some true) else (Zsl1Has.l0 k x0 x1 (wrap64 (x5 + 1)))) else (none)) else (some false)
def Zsl1Has.f (k : Nat) (l0 : List Int) (a1 : Int) : Option (Bool) := Zsl1Has.l0 k l0 a1 0
def Zsl3Back.l0 : Nat → List (S48) → Int → List Int → List Int → Int → Option (List Int)
  | 0, _, _, _, _, _ => none
  | k + 1, x0, x1, x5, x6, x7 => if x7 ≥ 0 then (if 0 ≤ x7 then (if x7 < (x0.length : Int) then (if ((rd_T48 x0 x7).f1) = x1 then (if ((rd_T48 x0 x7).f0) = 5 then (if x5.length < 17592186044416 then ((some (x5 ++ [(rd_T48 x0 x7).f7] : List Int)).bind fun y4 => (if ((rd_T48 x0 x7).f0) = 2 then ((Zsl1Has.f k y4 (wrap64 (x7 + 1))).bind fun t8 => (if t8 = true then (Zsl3Back.l0 k x0 x1 y4 x6 (wrap64 (x7 - 1))) else (if x6.length < 17592186044416 then (Zsl3Back.l0 k x0 x1 y4 (x6 ++ [wrap64 (x7 + 1)]) (wrap64 (x7 - 1))) else (none)))) else (Zsl3Back.l0 k x0 x1 y4 x6 (wrap64 (x7 - 1))))) else (none)) else (if ((rd_T48 x0 x7).f0) = 2 then ((Zsl1Has.f k x5 (wrap64 (x7 + 1))).bind fun t9 => (if t9 = true then (Zsl3Back.l0 k x0 x1 x5 x6 (wrap64 (x7 - 1))) else (if x6.length < 17592186044416 then (Zsl3Back.l0 k x0 x1 x5 (x6 ++ [wrap64 (x7 + 1)]) (wrap64 (x7 - 1))) else (none)))) else (Zsl3Back.l0 k x0 x1 x5 x6 (wrap64 (x7 - 1))))) else (Zsl3Back.l0 k x0 x1 x5 x6 (wrap64 (x7 - 1)))) else (none)) else (none)) else (some x6)
def Zsl3Back.f (k : Nat) (l0 : List (S48)) (a1 : Int) : Option (List Int) := Zsl3Back.l0 k l0 a1 (([] : List Int)) (([] : List Int)) (wrap64 ((l0.length : Int) - 1))
def ZsChainBack.l0 : Nat → List (S48) → Int → Int → Option (Int × List Int)
  | 0, _, _, _ => none
  | k + 1, x0, x1, x5 => if x5 < (x0.length : Int) then (if 0 ≤ x5 then ((ZsRecFault.f k ((rd_T48 x0 x5).f0) ((rd_T48 x0 x5).f1) ((rd_T48 x0 x5).f2) ((rd_T48 x0 x5).f3) ((rd_T48 x0 x5).f4) ((rd_T48 x0 x5).f5) ((rd_T48 x0 x5).f6) ((rd_T48 x0 x5).f7)).bind fun t8 => (if t8 = 0 then (ZsChainBack.l0 k x0 x1 (wrap64 (x5 + 1))) else (some (t8, ([] : List Int))))) else (none)) else ((Zsl3Txn.f x1).bind fun t9 => (if t9 = true then ((Zsl3Back.f k x0 x1).bind fun t10 => (some (0, t10))) else (some (3, ([] : List Int)))))
def ZsChainBack.f (k : Nat) (l0 : List (S48)) (a1 : Int) : Option (Int × List Int) := if (l0.length : Int) > 400 then (some (2, ([] : List Int))) else (ZsChainBack.l0 k l0 a1 0)
def ZirecsFault.l0 : Nat → List (S48) → Int → Int → Option (Int)
  | 0, _, _, _ => none
  | k + 1, x9, x10, x11 => if x11 < x10 then (if 0 ≤ x11 then (if x11 < (x9.length : Int) then ((ZiRecFault.f k ((rd_T48 x9 x11).f0) ((rd_T48 x9 x11).f1) ((rd_T48 x9 x11).f2) ((rd_T48 x9 x11).f3) ((rd_T48 x9 x11).f4) ((rd_T48 x9 x11).f5) ((rd_T48 x9 x11).f6) ((rd_T48 x9 x11).f7)).bind fun t8 => (if t8 = 0 then (ZirecsFault.l0 k x9 x10 (wrap64 (x11 + 1))) else (some t8))) else (none)) else (none)) else (some 0)
def ZirecsFault.f (k : Nat) (l0 : List (S48)) : Option (Int) := if (l0.length : Int) > 400 then (some 2) else (ZirecsFault.l0 k l0 (l0.length : Int) 0)
def Zichain.p (txn n : Int) (x : S48) : Bool := x.f0 == 5 && (x.f1 == txn && x.f7 == n)
def Zichain.hit (l0 : List S48) (a1 : Int) (m : Nat) : Bool := ((l0.getD m z48).f0 == 2 && (l0.getD m z48).f1 == a1) && !(l0.drop (m + 1)).any (Zichain.p a1 ((m : Int) + 1))
def Zichain.go (l0 : List S48) (a1 : Int) : Nat → List Int → List Int
  | 0, out => out
  | m + 1, out => Zichain.go l0 a1 m (if Zichain.hit l0 a1 m = true then out ++ [(m : Int) + 1] else out)
def Zichain.f (l0 : List S48) (a1 : Int) : Option (List Int) := if l0.length < 17592186044416 then some (Zichain.go l0 a1 l0.length []) else none
def ZiChainBack.j0 : Nat → List (S48) → Int → Int → Bool → Option (Int × List Int)
  | 0, _, _, _, _ => none
  | k + 1, x0, x1, x5, x14 => if x14 = true then (some (3, ([] : List Int))) else (if x5 = 0 then ((Zichain.f x0 x1).bind fun t2 => (some (0, t2))) else (some (x5, ([] : List Int))))
def ZiChainBack.f (k : Nat) (l0 : List (S48)) (a1 : Int) : Option (Int × List Int) := (ZirecsFault.f k l0).bind fun t2 => (if t2 = 0 then ((ZiisTxn.f a1).bind fun t3 => (ZiChainBack.j0 k l0 a1 t2 (!t3))) else (ZiChainBack.j0 k l0 a1 t2 false))
end Go.Proofs.Ythagppmaofcllaa.P
