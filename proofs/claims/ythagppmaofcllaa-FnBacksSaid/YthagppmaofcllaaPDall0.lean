-- Printed by this session's own program over the kit's print (wip/tools/mp.py). Not trusted: Lean checks it.
import Derived.Test.YthagppmaofcllaaP0
namespace Go.Proofs.Ythagppmaofcllaa.P
open Go.RowKit Go.Proofs.YthagppmaofcllaaW.PrintWords Go.Proofs.YthagppmaofcllaaW.PrintLast Go.Proofs.YthagppmaofcllaaW.PrintMore
attribute [local go_sem] max2_int min2_int max_two min_two max_three min_three max_four min_four   -- for this text's walks alone
set_option linter.unusedVariables false
set_option linter.unusedSimpArgs false

/-! ### spec_l1In: function 74 -/
def spec_l1In.f (a0 : Int) (a1 : Int) (a2 : Int) : Option (Bool) := if a0 ≥ a1 then (some (decide (a0 ≤ a2))) else (some false)

/-! ### spec_l3Txn: function 53 -/
def spec_l3Txn.f (a0 : Int) : Option (Bool) := (spec_l1In.f a0 1 999).bind fun t114 => (some t114)

/-! ### spec_l1Key: function 85 -/
def spec_l1Key.f (a0 : Int) : Option (Bool) := (spec_l1In.f a0 0 31).bind fun t115 => (some t115)

/-! ### spec_l1Value: function 86 -/
def spec_l1Value.f (a0 : Int) : Option (Bool) := (spec_l1In.f a0 0 9999).bind fun t116 => (some t116)

/-! ### spec_RecFault: function 52 -/
mutual
def spec_RecFault.j0 : Nat → Bool → Int → Int → Int → Bool → Int → Bool → Int → Int → Option (Int)
  | 0, _, _, _, _, _, _, _, _, _ => none
  | k + 1, x51, x118000, x118001, x118002, x118003, x118004, x118005, x118006, x118007 => if x51 = true then (some 3) else (if x118000 = 2 then (spec_RecFault.j1 k true x118000 x118001 x118002 x118003 x118004 x118005 x118006 x118007) else (spec_RecFault.j1 k (x118000 == 5) x118000 x118001 x118002 x118003 x118004 x118005 x118006 x118007))
def spec_RecFault.j1 : Nat → Bool → Int → Int → Int → Bool → Int → Bool → Int → Int → Option (Int)
  | 0, _, _, _, _, _, _, _, _, _ => none
  | k + 1, x3, x118000, x118001, x118002, x118003, x118004, x118005, x118006, x118007 => if x3 = true then (spec_RecFault.j2 k false x118000 x118001 x118002 x118003 x118004 x118005 x118006 x118007) else (if x118002 = 0 then (if x118003 = true then (spec_RecFault.j2 k true x118000 x118001 x118002 x118003 x118004 x118005 x118006 x118007) else (if x118004 = 0 then (if x118005 = true then (spec_RecFault.j2 k true x118000 x118001 x118002 x118003 x118004 x118005 x118006 x118007) else (spec_RecFault.j2 k (x118006 != 0) x118000 x118001 x118002 x118003 x118004 x118005 x118006 x118007)) else (spec_RecFault.j2 k true x118000 x118001 x118002 x118003 x118004 x118005 x118006 x118007))) else (spec_RecFault.j2 k true x118000 x118001 x118002 x118003 x118004 x118005 x118006 x118007))
def spec_RecFault.j2 : Nat → Bool → Int → Int → Int → Bool → Int → Bool → Int → Int → Option (Int)
  | 0, _, _, _, _, _, _, _, _, _ => none
  | k + 1, x84, x118000, x118001, x118002, x118003, x118004, x118005, x118006, x118007 => if x84 = true then (some 1) else (if x118003 = true then (if x118005 = true then (if x118000 = 5 then (if x118007 = 0 then (some 1) else (some 0)) else (if x118007 = 0 then (some 0) else (some 1))) else (if x118006 = 0 then (if x118000 = 5 then (if x118007 = 0 then (some 1) else (some 0)) else (if x118007 = 0 then (some 0) else (some 1))) else (some 1))) else (if x118004 = 0 then (if x118005 = true then (if x118000 = 5 then (if x118007 = 0 then (some 1) else (some 0)) else (if x118007 = 0 then (some 0) else (some 1))) else (if x118006 = 0 then (if x118000 = 5 then (if x118007 = 0 then (some 1) else (some 0)) else (if x118007 = 0 then (some 0) else (some 1))) else (some 1))) else (some 1)))
end
def spec_RecFault.f (k : Nat) (a0_0 : Int) (a0_1 : Int) (a0_2 : Int) (a0_3 : Bool) (a0_4 : Int) (a0_5 : Bool) (a0_6 : Int) (a0_7 : Int) : Option (Int) := (spec_l1In.f a0_0 1 6).bind fun t118 => (if t118 = true then (if a0_0 = 6 then (if a0_1 = 0 then ((spec_l1Key.f a0_2).bind fun t119 => (if t119 = true then ((spec_l1Value.f a0_4).bind fun t120 => (if t120 = true then ((spec_l1Value.f a0_6).bind fun t121 => (if t121 = true then ((spec_l1In.f a0_7 0 1000).bind fun t122 => (spec_RecFault.j0 k (!t122) a0_0 a0_1 a0_2 a0_3 a0_4 a0_5 a0_6 a0_7)) else (spec_RecFault.j0 k true a0_0 a0_1 a0_2 a0_3 a0_4 a0_5 a0_6 a0_7))) else (spec_RecFault.j0 k true a0_0 a0_1 a0_2 a0_3 a0_4 a0_5 a0_6 a0_7))) else (spec_RecFault.j0 k true a0_0 a0_1 a0_2 a0_3 a0_4 a0_5 a0_6 a0_7))) else (spec_RecFault.j0 k true a0_0 a0_1 a0_2 a0_3 a0_4 a0_5 a0_6 a0_7)) else (if a0_1 = 0 then (spec_RecFault.j0 k true a0_0 a0_1 a0_2 a0_3 a0_4 a0_5 a0_6 a0_7) else ((spec_l3Txn.f a0_1).bind fun t123 => (if t123 = true then ((spec_l1Key.f a0_2).bind fun t124 => (if t124 = true then ((spec_l1Value.f a0_4).bind fun t125 => (if t125 = true then ((spec_l1Value.f a0_6).bind fun t126 => (if t126 = true then ((spec_l1In.f a0_7 0 1000).bind fun t127 => (spec_RecFault.j0 k (!t127) a0_0 a0_1 a0_2 a0_3 a0_4 a0_5 a0_6 a0_7)) else (spec_RecFault.j0 k true a0_0 a0_1 a0_2 a0_3 a0_4 a0_5 a0_6 a0_7))) else (spec_RecFault.j0 k true a0_0 a0_1 a0_2 a0_3 a0_4 a0_5 a0_6 a0_7))) else (spec_RecFault.j0 k true a0_0 a0_1 a0_2 a0_3 a0_4 a0_5 a0_6 a0_7))) else (spec_RecFault.j0 k true a0_0 a0_1 a0_2 a0_3 a0_4 a0_5 a0_6 a0_7))))) else (spec_RecFault.j0 k true a0_0 a0_1 a0_2 a0_3 a0_4 a0_5 a0_6 a0_7))

/-! ### impl_within: function 76 -/
def impl_within.f (a0 : Int) (a1 : Int) (a2 : Int) : Option (Bool) := if a1 ≤ a0 then (some (decide (a0 ≤ a2))) else (some false)

/-! ### impl_isTxn: function 57 -/
def impl_isTxn.f (a0 : Int) : Option (Bool) := (impl_within.f a0 1 999).bind fun t235 => (some t235)

/-! ### impl_isKey: function 96 -/
def impl_isKey.f (a0 : Int) : Option (Bool) := (impl_within.f a0 0 31).bind fun t236 => (some t236)

/-! ### impl_isValue: function 97 -/
def impl_isValue.f (a0 : Int) : Option (Bool) := (impl_within.f a0 0 9999).bind fun t237 => (some t237)

/-! ### impl_Rec_turns: function 98 -/
def impl_Rec_turns.f (a0_0 : Int) (a0_1 : Int) (a0_2 : Int) (a0_3 : Bool) (a0_4 : Int) (a0_5 : Bool) (a0_6 : Int) (a0_7 : Int) : Option (Bool) := if a0_0 = 2 then (some true) else (some (a0_0 == 5))

/-! ### impl_RecFault: function 82 -/
mutual
def impl_RecFault.j0 : Nat → Bool → Int → Int → Int → Bool → Int → Bool → Int → Int → Option (Int)
  | 0, _, _, _, _, _, _, _, _, _ => none
  | k + 1, x3, x240000, x240001, x240002, x240003, x240004, x240005, x240006, x240007 => (impl_within.f x240000 1 6).bind fun t241 => (if t241 = true then (if x3 = true then ((impl_isKey.f x240002).bind fun t242 => (if t242 = true then ((impl_isValue.f x240004).bind fun t243 => (if t243 = true then ((impl_isValue.f x240006).bind fun t244 => (if t244 = true then ((impl_within.f x240007 0 1000).bind fun t245 => (impl_RecFault.j1 k (!t245) x240000 x240001 x240002 x240003 x240004 x240005 x240006 x240007)) else (impl_RecFault.j1 k true x240000 x240001 x240002 x240003 x240004 x240005 x240006 x240007))) else (impl_RecFault.j1 k true x240000 x240001 x240002 x240003 x240004 x240005 x240006 x240007))) else (impl_RecFault.j1 k true x240000 x240001 x240002 x240003 x240004 x240005 x240006 x240007))) else (impl_RecFault.j1 k true x240000 x240001 x240002 x240003 x240004 x240005 x240006 x240007)) else (impl_RecFault.j1 k true x240000 x240001 x240002 x240003 x240004 x240005 x240006 x240007))
def impl_RecFault.j1 : Nat → Bool → Int → Int → Int → Bool → Int → Bool → Int → Int → Option (Int)
  | 0, _, _, _, _, _, _, _, _, _ => none
  | k + 1, x13, x240000, x240001, x240002, x240003, x240004, x240005, x240006, x240007 => if x13 = true then (some 3) else ((impl_Rec_turns.f x240000 x240001 x240002 x240003 x240004 x240005 x240006 x240007).bind fun t246 => (if t246 = true then (impl_RecFault.j2 k false x240000 x240001 x240002 x240003 x240004 x240005 x240006 x240007) else (if x240002 = 0 then (if x240003 = true then (impl_RecFault.j2 k true x240000 x240001 x240002 x240003 x240004 x240005 x240006 x240007) else (if x240004 = 0 then (if x240005 = true then (impl_RecFault.j2 k true x240000 x240001 x240002 x240003 x240004 x240005 x240006 x240007) else (impl_RecFault.j2 k (x240006 != 0) x240000 x240001 x240002 x240003 x240004 x240005 x240006 x240007)) else (impl_RecFault.j2 k true x240000 x240001 x240002 x240003 x240004 x240005 x240006 x240007))) else (impl_RecFault.j2 k true x240000 x240001 x240002 x240003 x240004 x240005 x240006 x240007))))
def impl_RecFault.j2 : Nat → Bool → Int → Int → Int → Bool → Int → Bool → Int → Int → Option (Int)
  | 0, _, _, _, _, _, _, _, _, _ => none
  | k + 1, x46, x240000, x240001, x240002, x240003, x240004, x240005, x240006, x240007 => if x46 = true then (some 1) else (if x240003 = true then (impl_RecFault.j3 k false x240000 x240001 x240002 x240003 x240004 x240005 x240006 x240007) else (impl_RecFault.j3 k (x240004 != 0) x240000 x240001 x240002 x240003 x240004 x240005 x240006 x240007))
def impl_RecFault.j3 : Nat → Bool → Int → Int → Int → Bool → Int → Bool → Int → Int → Option (Int)
  | 0, _, _, _, _, _, _, _, _, _ => none
  | k + 1, x46, x240000, x240001, x240002, x240003, x240004, x240005, x240006, x240007 => if x46 = true then (some 1) else (if x240005 = true then (impl_RecFault.j4 k false x240000 x240001 x240002 x240003 x240004 x240005 x240006 x240007) else (impl_RecFault.j4 k (x240006 != 0) x240000 x240001 x240002 x240003 x240004 x240005 x240006 x240007))
def impl_RecFault.j4 : Nat → Bool → Int → Int → Int → Bool → Int → Bool → Int → Int → Option (Int)
  | 0, _, _, _, _, _, _, _, _, _ => none
  | k + 1, x46, x240000, x240001, x240002, x240003, x240004, x240005, x240006, x240007 => if x46 = true then (some 1) else (if x240000 = 5 then (if x240007 = 0 then (some 1) else (some 0)) else (if x240007 = 0 then (some 0) else (some 1)))
end
def impl_RecFault.f (k : Nat) (a0_0 : Int) (a0_1 : Int) (a0_2 : Int) (a0_3 : Bool) (a0_4 : Int) (a0_5 : Bool) (a0_6 : Int) (a0_7 : Int) : Option (Int) := (impl_isTxn.f a0_1).bind fun t240 => (if a0_0 = 6 then (impl_RecFault.j0 k (a0_1 == 0) a0_0 a0_1 a0_2 a0_3 a0_4 a0_5 a0_6 a0_7) else (impl_RecFault.j0 k t240 a0_0 a0_1 a0_2 a0_3 a0_4 a0_5 a0_6 a0_7))

end Go.Proofs.Ythagppmaofcllaa.P
