import Derived.Test.YthagppmaofcllaaP0
namespace Go.Proofs.Ythagppmaofcllaa.P
open Go.RowKit Go.Proofs.YthagppmaofcllaaW.PrintWords Go.Proofs.YthagppmaofcllaaW.PrintLast Go.Proofs.YthagppmaofcllaaW.PrintMore
attribute [local go_sem] max2_int min2_int max_two min_two max_three min_three max_four min_four   -- for this text's walks alone
set_option linter.unusedVariables false
set_option linter.unusedSimpArgs false
def Zsl1In.f (a0 : Int) (a1 : Int) (a2 : Int) : Option (Bool) := if a0 ≥ a1 then (some (decide (a0 ≤ a2))) else (some false)
def Zsl3Txn.f (a0 : Int) : Option (Bool) := (Zsl1In.f a0 1 999).bind fun t2 => (some t2)
def Zsl1Key.f (a0 : Int) : Option (Bool) := (Zsl1In.f a0 0 31).bind fun t2 => (some t2)
def Zsl1Value.f (a0 : Int) : Option (Bool) := (Zsl1In.f a0 0 9999).bind fun t2 => (some t2)
mutual
def ZsRecFault.j0 : Nat → Bool → Int → Int → Int → Bool → Int → Bool → Int → Int → Option (Int)
  | 0, _, _, _, _, _, _, _, _, _ => none
  | k + 1, x51, x4, x6, x7, x8, x9, x10, x11, x12 => if x51 = true then (some 3) else (if x4 = 2 then (ZsRecFault.j1 k true x4 x6 x7 x8 x9 x10 x11 x12) else (ZsRecFault.j1 k (x4 == 5) x4 x6 x7 x8 x9 x10 x11 x12))
def ZsRecFault.j1 : Nat → Bool → Int → Int → Int → Bool → Int → Bool → Int → Int → Option (Int)
  | 0, _, _, _, _, _, _, _, _, _ => none
  | k + 1, x3, x9, x10, x4, x5, x6, x7, x8, x11 => if x3 = true then (ZsRecFault.j2 k false x9 x10 x4 x5 x6 x7 x8 x11) else (if x4 = 0 then (if x5 = true then (ZsRecFault.j2 k true x9 x10 x4 x5 x6 x7 x8 x11) else (if x6 = 0 then (if x7 = true then (ZsRecFault.j2 k true x9 x10 x4 x5 x6 x7 x8 x11) else (ZsRecFault.j2 k (x8 != 0) x9 x10 x4 x5 x6 x7 x8 x11)) else (ZsRecFault.j2 k true x9 x10 x4 x5 x6 x7 x8 x11))) else (ZsRecFault.j2 k true x9 x10 x4 x5 x6 x7 x8 x11))
def ZsRecFault.j2 : Nat → Bool → Int → Int → Int → Bool → Int → Bool → Int → Int → Option (Int)
  | 0, _, _, _, _, _, _, _, _, _ => none
  | k + 1, x84, x4, x10, x11, x8, x9, x6, x7, x3 => if x84 = true then (some 1) else (if x8 = true then (if x6 = true then (if x4 = 5 then (if x3 = 0 then (some 1) else (some 0)) else (if x3 = 0 then (some 0) else (some 1))) else (if x7 = 0 then (if x4 = 5 then (if x3 = 0 then (some 1) else (some 0)) else (if x3 = 0 then (some 0) else (some 1))) else (some 1))) else (if x9 = 0 then (if x6 = true then (if x4 = 5 then (if x3 = 0 then (some 1) else (some 0)) else (if x3 = 0 then (some 0) else (some 1))) else (if x7 = 0 then (if x4 = 5 then (if x3 = 0 then (some 1) else (some 0)) else (if x3 = 0 then (some 0) else (some 1))) else (some 1))) else (some 1)))
end
def ZsRecFault.f (k : Nat) (a0_0 : Int) (a0_1 : Int) (a0_2 : Int) (a0_3 : Bool) (a0_4 : Int) (a0_5 : Bool) (a0_6 : Int) (a0_7 : Int) : Option (Int) := (Zsl1In.f a0_0 1 6).bind fun t8 => (if t8 = true then (if a0_0 = 6 then (if a0_1 = 0 then ((Zsl1Key.f a0_2).bind fun t9 => (if t9 = true then ((Zsl1Value.f a0_4).bind fun t10 => (if t10 = true then ((Zsl1Value.f a0_6).bind fun t11 => (if t11 = true then ((Zsl1In.f a0_7 0 1000).bind fun t12 => (ZsRecFault.j0 k (!t12) a0_0 a0_1 a0_2 a0_3 a0_4 a0_5 a0_6 a0_7)) else (ZsRecFault.j0 k true a0_0 a0_1 a0_2 a0_3 a0_4 a0_5 a0_6 a0_7))) else (ZsRecFault.j0 k true a0_0 a0_1 a0_2 a0_3 a0_4 a0_5 a0_6 a0_7))) else (ZsRecFault.j0 k true a0_0 a0_1 a0_2 a0_3 a0_4 a0_5 a0_6 a0_7))) else (ZsRecFault.j0 k true a0_0 a0_1 a0_2 a0_3 a0_4 a0_5 a0_6 a0_7)) else (if a0_1 = 0 then (ZsRecFault.j0 k true a0_0 a0_1 a0_2 a0_3 a0_4 a0_5 a0_6 a0_7) else ((Zsl3Txn.f a0_1).bind fun t13 => (if t13 = true then ((Zsl1Key.f a0_2).bind fun t14 => (if t14 = true then ((Zsl1Value.f a0_4).bind fun t15 => (if t15 = true then ((Zsl1Value.f a0_6).bind fun t16 => (if t16 = true then ((Zsl1In.f a0_7 0 1000).bind fun t17 => (ZsRecFault.j0 k (!t17) a0_0 a0_1 a0_2 a0_3 a0_4 a0_5 a0_6 a0_7)) else (ZsRecFault.j0 k true a0_0 a0_1 a0_2 a0_3 a0_4 a0_5 a0_6 a0_7))) else (ZsRecFault.j0 k true a0_0 a0_1 a0_2 a0_3 a0_4 a0_5 a0_6 a0_7))) else (ZsRecFault.j0 k true a0_0 a0_1 a0_2 a0_3 a0_4 a0_5 a0_6 a0_7))) else (ZsRecFault.j0 k true a0_0 a0_1 a0_2 a0_3 a0_4 a0_5 a0_6 a0_7))))) else (ZsRecFault.j0 k true a0_0 a0_1 a0_2 a0_3 a0_4 a0_5 a0_6 a0_7))
def Ziwithin.f (a0 : Int) (a1 : Int) (a2 : Int) : Option (Bool) := if a1 ≤ a0 then (some (decide (a0 ≤ a2))) else (some false)
def ZiisTxn.f (a0 : Int) : Option (Bool) := (Ziwithin.f a0 1 999).bind fun t2 => (some t2)
def ZiisKey.f (a0 : Int) : Option (Bool) := (Ziwithin.f a0 0 31).bind fun t1 => (some t1)
def ZiisValue.f (a0 : Int) : Option (Bool) := (Ziwithin.f a0 0 9999).bind fun t1 => (some t1)
def ZiRec_turns.f (a0_0 : Int) (a0_1 : Int) (a0_2 : Int) (a0_3 : Bool) (a0_4 : Int) (a0_5 : Bool) (a0_6 : Int) (a0_7 : Int) : Option (Bool) := if a0_0 = 2 then (some true) else (some (a0_0 == 5))
mutual
def ZiRecFault.j0 : Nat → Bool → Int → Int → Int → Bool → Int → Bool → Int → Int → Option (Int)
  | 0, _, _, _, _, _, _, _, _, _ => none
  | k + 1, x3, x2, x9, x4, x10, x5, x11, x7, x8 => (Ziwithin.f x2 1 6).bind fun t12 => (if t12 = true then (if x3 = true then ((ZiisKey.f x4).bind fun t13 => (if t13 = true then ((ZiisValue.f x5).bind fun t14 => (if t14 = true then ((ZiisValue.f x7).bind fun t15 => (if t15 = true then ((Ziwithin.f x8 0 1000).bind fun t16 => (ZiRecFault.j1 k (!t16) x2 x9 x4 x10 x5 x11 x7 x8)) else (ZiRecFault.j1 k true x2 x9 x4 x10 x5 x11 x7 x8))) else (ZiRecFault.j1 k true x2 x9 x4 x10 x5 x11 x7 x8))) else (ZiRecFault.j1 k true x2 x9 x4 x10 x5 x11 x7 x8))) else (ZiRecFault.j1 k true x2 x9 x4 x10 x5 x11 x7 x8)) else (ZiRecFault.j1 k true x2 x9 x4 x10 x5 x11 x7 x8))
def ZiRecFault.j1 : Nat → Bool → Int → Int → Int → Bool → Int → Bool → Int → Int → Option (Int)
  | 0, _, _, _, _, _, _, _, _, _ => none
  | k + 1, x13, x9, x10, x4, x5, x6, x7, x8, x11 => if x13 = true then (some 3) else ((ZiRec_turns.f x9 x10 x4 x5 x6 x7 x8 x11).bind fun t12 => (if t12 = true then (ZiRecFault.j2 k false x9 x10 x4 x5 x6 x7 x8 x11) else (if x4 = 0 then (if x5 = true then (ZiRecFault.j2 k true x9 x10 x4 x5 x6 x7 x8 x11) else (if x6 = 0 then (if x7 = true then (ZiRecFault.j2 k true x9 x10 x4 x5 x6 x7 x8 x11) else (ZiRecFault.j2 k (x8 != 0) x9 x10 x4 x5 x6 x7 x8 x11)) else (ZiRecFault.j2 k true x9 x10 x4 x5 x6 x7 x8 x11))) else (ZiRecFault.j2 k true x9 x10 x4 x5 x6 x7 x8 x11))))
def ZiRecFault.j2 : Nat → Bool → Int → Int → Int → Bool → Int → Bool → Int → Int → Option (Int)
  | 0, _, _, _, _, _, _, _, _, _ => none
  | k + 1, x46, x6, x7, x8, x4, x5, x9, x10, x11 => if x46 = true then (some 1) else (if x4 = true then (ZiRecFault.j3 k false x6 x7 x8 x4 x5 x9 x10 x11) else (ZiRecFault.j3 k (x5 != 0) x6 x7 x8 x4 x5 x9 x10 x11))
def ZiRecFault.j3 : Nat → Bool → Int → Int → Int → Bool → Int → Bool → Int → Int → Option (Int)
  | 0, _, _, _, _, _, _, _, _, _ => none
  | k + 1, x46, x6, x7, x8, x9, x10, x2, x5, x11 => if x46 = true then (some 1) else (if x2 = true then (ZiRecFault.j4 k false x6 x7 x8 x9 x10 x2 x5 x11) else (ZiRecFault.j4 k (x5 != 0) x6 x7 x8 x9 x10 x2 x5 x11))
def ZiRecFault.j4 : Nat → Bool → Int → Int → Int → Bool → Int → Bool → Int → Int → Option (Int)
  | 0, _, _, _, _, _, _, _, _, _ => none
  | k + 1, x46, x3, x6, x7, x8, x9, x10, x11, x2 => if x46 = true then (some 1) else (if x3 = 5 then (if x2 = 0 then (some 1) else (some 0)) else (if x2 = 0 then (some 0) else (some 1)))
end
def ZiRecFault.f (k : Nat) (a0_0 : Int) (a0_1 : Int) (a0_2 : Int) (a0_3 : Bool) (a0_4 : Int) (a0_5 : Bool) (a0_6 : Int) (a0_7 : Int) : Option (Int) := (ZiisTxn.f a0_1).bind fun t8 => (if a0_0 = 6 then (ZiRecFault.j0 k (a0_1 == 0) a0_0 a0_1 a0_2 a0_3 a0_4 a0_5 a0_6 a0_7) else (ZiRecFault.j0 k t8 a0_0 a0_1 a0_2 a0_3 a0_4 a0_5 a0_6 a0_7))
end Go.Proofs.Ythagppmaofcllaa.P
