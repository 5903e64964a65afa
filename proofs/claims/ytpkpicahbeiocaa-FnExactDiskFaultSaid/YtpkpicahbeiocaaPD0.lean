-- Printed by this session's own program over the kit's print (wip/tools/mp.py). Not trusted: Lean checks it.
import Derived.Test.YtpkpicahbeiocaaP0
namespace Go.Proofs.Ytpkpicahbeiocaa.P
open Go.RowKit Go.Proofs.YtpkpicahbeiocaaW.PrintWords Go.Proofs.YtpkpicahbeiocaaW.PrintLast Go.Proofs.YtpkpicahbeiocaaW.PrintMore
attribute [local go_sem] max2_int min2_int max_two min_two max_three min_three max_four min_four   -- for this text's walks alone
set_option linter.unusedVariables false
set_option linter.unusedSimpArgs false

/-! ### spec_l1In: function 63 -/
def spec_l1In.f (a0 : Int) (a1 : Int) (a2 : Int) : Option (Bool) := if a0 ≥ a1 then (some (decide (a0 ≤ a2))) else (some false)

/-! ### spec_l3Txn: function 64 -/
def spec_l3Txn.f (a0 : Int) : Option (Bool) := (spec_l1In.f a0 1 999).bind fun t101 => (some t101)

/-! ### spec_l1Key: function 65 -/
def spec_l1Key.f (a0 : Int) : Option (Bool) := (spec_l1In.f a0 0 31).bind fun t102 => (some t102)

/-! ### spec_l1Value: function 66 -/
def spec_l1Value.f (a0 : Int) : Option (Bool) := (spec_l1In.f a0 0 9999).bind fun t103 => (some t103)

/-! ### spec_RecFault: function 14 -/
mutual
def spec_RecFault.j0 : Nat → Bool → Int → Int → Int → Bool → Int → Bool → Int → Int → Option (Int)
  | 0, _, _, _, _, _, _, _, _, _ => none
  | k + 1, x51, x105000, x105001, x105002, x105003, x105004, x105005, x105006, x105007 => if x51 = true then (some 3) else (if x105000 = 2 then (spec_RecFault.j1 k true x105000 x105001 x105002 x105003 x105004 x105005 x105006 x105007) else (spec_RecFault.j1 k (x105000 == 5) x105000 x105001 x105002 x105003 x105004 x105005 x105006 x105007))
def spec_RecFault.j1 : Nat → Bool → Int → Int → Int → Bool → Int → Bool → Int → Int → Option (Int)
  | 0, _, _, _, _, _, _, _, _, _ => none
  | k + 1, x3, x105000, x105001, x105002, x105003, x105004, x105005, x105006, x105007 => if x3 = true then (spec_RecFault.j2 k false x105000 x105001 x105002 x105003 x105004 x105005 x105006 x105007) else (if x105002 = 0 then (if x105003 = true then (spec_RecFault.j2 k true x105000 x105001 x105002 x105003 x105004 x105005 x105006 x105007) else (if x105004 = 0 then (if x105005 = true then (spec_RecFault.j2 k true x105000 x105001 x105002 x105003 x105004 x105005 x105006 x105007) else (spec_RecFault.j2 k (x105006 != 0) x105000 x105001 x105002 x105003 x105004 x105005 x105006 x105007)) else (spec_RecFault.j2 k true x105000 x105001 x105002 x105003 x105004 x105005 x105006 x105007))) else (spec_RecFault.j2 k true x105000 x105001 x105002 x105003 x105004 x105005 x105006 x105007))
def spec_RecFault.j2 : Nat → Bool → Int → Int → Int → Bool → Int → Bool → Int → Int → Option (Int)
  | 0, _, _, _, _, _, _, _, _, _ => none
  | k + 1, x84, x105000, x105001, x105002, x105003, x105004, x105005, x105006, x105007 => if x84 = true then (some 1) else (if x105003 = true then (if x105005 = true then (if x105000 = 5 then (if x105007 = 0 then (some 1) else (some 0)) else (if x105007 = 0 then (some 0) else (some 1))) else (if x105006 = 0 then (if x105000 = 5 then (if x105007 = 0 then (some 1) else (some 0)) else (if x105007 = 0 then (some 0) else (some 1))) else (some 1))) else (if x105004 = 0 then (if x105005 = true then (if x105000 = 5 then (if x105007 = 0 then (some 1) else (some 0)) else (if x105007 = 0 then (some 0) else (some 1))) else (if x105006 = 0 then (if x105000 = 5 then (if x105007 = 0 then (some 1) else (some 0)) else (if x105007 = 0 then (some 0) else (some 1))) else (some 1))) else (some 1)))
end
def spec_RecFault.f (k : Nat) (a0_0 : Int) (a0_1 : Int) (a0_2 : Int) (a0_3 : Bool) (a0_4 : Int) (a0_5 : Bool) (a0_6 : Int) (a0_7 : Int) : Option (Int) := (spec_l1In.f a0_0 1 6).bind fun t105 => (if t105 = true then (if a0_0 = 6 then (if a0_1 = 0 then ((spec_l1Key.f a0_2).bind fun t106 => (if t106 = true then ((spec_l1Value.f a0_4).bind fun t107 => (if t107 = true then ((spec_l1Value.f a0_6).bind fun t108 => (if t108 = true then ((spec_l1In.f a0_7 0 1000).bind fun t109 => (spec_RecFault.j0 k (!t109) a0_0 a0_1 a0_2 a0_3 a0_4 a0_5 a0_6 a0_7)) else (spec_RecFault.j0 k true a0_0 a0_1 a0_2 a0_3 a0_4 a0_5 a0_6 a0_7))) else (spec_RecFault.j0 k true a0_0 a0_1 a0_2 a0_3 a0_4 a0_5 a0_6 a0_7))) else (spec_RecFault.j0 k true a0_0 a0_1 a0_2 a0_3 a0_4 a0_5 a0_6 a0_7))) else (spec_RecFault.j0 k true a0_0 a0_1 a0_2 a0_3 a0_4 a0_5 a0_6 a0_7)) else (if a0_1 = 0 then (spec_RecFault.j0 k true a0_0 a0_1 a0_2 a0_3 a0_4 a0_5 a0_6 a0_7) else ((spec_l3Txn.f a0_1).bind fun t110 => (if t110 = true then ((spec_l1Key.f a0_2).bind fun t111 => (if t111 = true then ((spec_l1Value.f a0_4).bind fun t112 => (if t112 = true then ((spec_l1Value.f a0_6).bind fun t113 => (if t113 = true then ((spec_l1In.f a0_7 0 1000).bind fun t114 => (spec_RecFault.j0 k (!t114) a0_0 a0_1 a0_2 a0_3 a0_4 a0_5 a0_6 a0_7)) else (spec_RecFault.j0 k true a0_0 a0_1 a0_2 a0_3 a0_4 a0_5 a0_6 a0_7))) else (spec_RecFault.j0 k true a0_0 a0_1 a0_2 a0_3 a0_4 a0_5 a0_6 a0_7))) else (spec_RecFault.j0 k true a0_0 a0_1 a0_2 a0_3 a0_4 a0_5 a0_6 a0_7))) else (spec_RecFault.j0 k true a0_0 a0_1 a0_2 a0_3 a0_4 a0_5 a0_6 a0_7))))) else (spec_RecFault.j0 k true a0_0 a0_1 a0_2 a0_3 a0_4 a0_5 a0_6 a0_7))

/-! ### laws_toRec: function 15 -/
def laws_toRec.f (a0_0 : Int) (a0_1 : Int) (a0_2 : Int) (a0_3 : Bool) (a0_4 : Int) (a0_5 : Bool) (a0_6 : Int) (a0_7 : Int) : Option (Int × Int × Int × Bool × Int × Bool × Int × Int) := some (a0_0, a0_1, a0_2, a0_3, a0_4, a0_5, a0_6, a0_7)

/-! ### impl_within: function 68 -/
def impl_within.f (a0 : Int) (a1 : Int) (a2 : Int) : Option (Bool) := if a1 ≤ a0 then (some (decide (a0 ≤ a2))) else (some false)

/-! ### impl_isTxn: function 67 -/
def impl_isTxn.f (a0 : Int) : Option (Bool) := (impl_within.f a0 1 999).bind fun t118 => (some t118)

/-! ### impl_isKey: function 69 -/
def impl_isKey.f (a0 : Int) : Option (Bool) := (impl_within.f a0 0 31).bind fun t119 => (some t119)

/-! ### impl_isValue: function 70 -/
def impl_isValue.f (a0 : Int) : Option (Bool) := (impl_within.f a0 0 9999).bind fun t120 => (some t120)

/-! ### impl_Rec_turns: function 71 -/
def impl_Rec_turns.f (a0_0 : Int) (a0_1 : Int) (a0_2 : Int) (a0_3 : Bool) (a0_4 : Int) (a0_5 : Bool) (a0_6 : Int) (a0_7 : Int) : Option (Bool) := if a0_0 = 2 then (some true) else (some (a0_0 == 5))

/-! ### impl_RecFault: function 16 -/
mutual
def impl_RecFault.j0 : Nat → Bool → Int → Int → Int → Bool → Int → Bool → Int → Int → Option (Int)
  | 0, _, _, _, _, _, _, _, _, _ => none
  | k + 1, x3, x123000, x123001, x123002, x123003, x123004, x123005, x123006, x123007 => (impl_within.f x123000 1 6).bind fun t124 => (if t124 = true then (if x3 = true then ((impl_isKey.f x123002).bind fun t125 => (if t125 = true then ((impl_isValue.f x123004).bind fun t126 => (if t126 = true then ((impl_isValue.f x123006).bind fun t127 => (if t127 = true then ((impl_within.f x123007 0 1000).bind fun t128 => (impl_RecFault.j1 k (!t128) x123000 x123001 x123002 x123003 x123004 x123005 x123006 x123007)) else (impl_RecFault.j1 k true x123000 x123001 x123002 x123003 x123004 x123005 x123006 x123007))) else (impl_RecFault.j1 k true x123000 x123001 x123002 x123003 x123004 x123005 x123006 x123007))) else (impl_RecFault.j1 k true x123000 x123001 x123002 x123003 x123004 x123005 x123006 x123007))) else (impl_RecFault.j1 k true x123000 x123001 x123002 x123003 x123004 x123005 x123006 x123007)) else (impl_RecFault.j1 k true x123000 x123001 x123002 x123003 x123004 x123005 x123006 x123007))
def impl_RecFault.j1 : Nat → Bool → Int → Int → Int → Bool → Int → Bool → Int → Int → Option (Int)
  | 0, _, _, _, _, _, _, _, _, _ => none
  | k + 1, x13, x123000, x123001, x123002, x123003, x123004, x123005, x123006, x123007 => if x13 = true then (some 3) else ((impl_Rec_turns.f x123000 x123001 x123002 x123003 x123004 x123005 x123006 x123007).bind fun t129 => (if t129 = true then (impl_RecFault.j2 k false x123000 x123001 x123002 x123003 x123004 x123005 x123006 x123007) else (if x123002 = 0 then (if x123003 = true then (impl_RecFault.j2 k true x123000 x123001 x123002 x123003 x123004 x123005 x123006 x123007) else (if x123004 = 0 then (if x123005 = true then (impl_RecFault.j2 k true x123000 x123001 x123002 x123003 x123004 x123005 x123006 x123007) else (impl_RecFault.j2 k (x123006 != 0) x123000 x123001 x123002 x123003 x123004 x123005 x123006 x123007)) else (impl_RecFault.j2 k true x123000 x123001 x123002 x123003 x123004 x123005 x123006 x123007))) else (impl_RecFault.j2 k true x123000 x123001 x123002 x123003 x123004 x123005 x123006 x123007))))
def impl_RecFault.j2 : Nat → Bool → Int → Int → Int → Bool → Int → Bool → Int → Int → Option (Int)
  | 0, _, _, _, _, _, _, _, _, _ => none
  | k + 1, x46, x123000, x123001, x123002, x123003, x123004, x123005, x123006, x123007 => if x46 = true then (some 1) else (if x123003 = true then (impl_RecFault.j3 k false x123000 x123001 x123002 x123003 x123004 x123005 x123006 x123007) else (impl_RecFault.j3 k (x123004 != 0) x123000 x123001 x123002 x123003 x123004 x123005 x123006 x123007))
def impl_RecFault.j3 : Nat → Bool → Int → Int → Int → Bool → Int → Bool → Int → Int → Option (Int)
  | 0, _, _, _, _, _, _, _, _, _ => none
  | k + 1, x46, x123000, x123001, x123002, x123003, x123004, x123005, x123006, x123007 => if x46 = true then (some 1) else (if x123005 = true then (impl_RecFault.j4 k false x123000 x123001 x123002 x123003 x123004 x123005 x123006 x123007) else (impl_RecFault.j4 k (x123006 != 0) x123000 x123001 x123002 x123003 x123004 x123005 x123006 x123007))
def impl_RecFault.j4 : Nat → Bool → Int → Int → Int → Bool → Int → Bool → Int → Int → Option (Int)
  | 0, _, _, _, _, _, _, _, _, _ => none
  | k + 1, x46, x123000, x123001, x123002, x123003, x123004, x123005, x123006, x123007 => if x46 = true then (some 1) else (if x123000 = 5 then (if x123007 = 0 then (some 1) else (some 0)) else (if x123007 = 0 then (some 0) else (some 1)))
end
def impl_RecFault.f (k : Nat) (a0_0 : Int) (a0_1 : Int) (a0_2 : Int) (a0_3 : Bool) (a0_4 : Int) (a0_5 : Bool) (a0_6 : Int) (a0_7 : Int) : Option (Int) := (impl_isTxn.f a0_1).bind fun t123 => (if a0_0 = 6 then (impl_RecFault.j0 k (a0_1 == 0) a0_0 a0_1 a0_2 a0_3 a0_4 a0_5 a0_6 a0_7) else (impl_RecFault.j0 k t123 a0_0 a0_1 a0_2 a0_3 a0_4 a0_5 a0_6 a0_7))

/-! ### laws_FnExactRecFault: function 3 -/
def laws_FnExactRecFault.f (k : Nat) (a0_0 : Int) (a0_1 : Int) (a0_2 : Int) (a0_3 : Bool) (a0_4 : Int) (a0_5 : Bool) (a0_6 : Int) (a0_7 : Int) : Option (Bool) := (laws_toRec.f a0_0 a0_1 a0_2 a0_3 a0_4 a0_5 a0_6 a0_7).bind fun bt131 => ((spec_RecFault.f k bt131.1 bt131.2.1 bt131.2.2.1 bt131.2.2.2.1 bt131.2.2.2.2.1 bt131.2.2.2.2.2.1 bt131.2.2.2.2.2.2.1 bt131.2.2.2.2.2.2.2).bind fun t139 => ((laws_toRec.f a0_0 a0_1 a0_2 a0_3 a0_4 a0_5 a0_6 a0_7).bind fun bt140 => ((impl_RecFault.f k bt140.1 bt140.2.1 bt140.2.2.1 bt140.2.2.2.1 bt140.2.2.2.2.1 bt140.2.2.2.2.2.1 bt140.2.2.2.2.2.2.1 bt140.2.2.2.2.2.2.2).bind fun t148 => (if t148 = t139 then (some true) else (some false)))))

/-! ### spec_l1Bytes: function 110 -/
def spec_l1Bytes.l0 : Nat → Int → List Int → Int → Option (List Int)
  | 0, _, _, _ => none
  | k + 1, x0, x5, x6 => if x6 ≥ 0 then (if 0 ≤ (IntKind.u64.wrap (wrap64 (8 * x6))) then (if x5.length < 140737488355328 then (spec_l1Bytes.l0 k x0 (x5 ++ [(shr .i64 x0 (IntKind.u64.wrap (wrap64 (8 * x6)))) % 256]) (wrap64 (x6 - 1))) else (none)) else (none)) else (some x5)
def spec_l1Bytes.f (k : Nat) (a0 : Int) (a1 : Int) : Option (List Int) := spec_l1Bytes.l0 k a0 (([] : List Int)) (wrap64 (a1 - 1))

/-! ### spec_SumBytes: function 111 -/
def spec_SumBytes.l0 : Nat → List Int → Int → Int → Option (Int)
  | 0, _, _, _ => none
  | k + 1, x0, x3, x4 => if x4 < (x0.length : Int) then (if 0 ≤ x4 then (spec_SumBytes.l0 k x0 (Int.tmod (wrap64 ((wrap64 ((wrap64 (x3 * 269)) + (wrap64 (rd x0 x4)))) + 1)) 65521) (wrap64 (x4 + 1))) else (none)) else (some x3)
def spec_SumBytes.f (k : Nat) (l0 : List Int) : Option (Int) := spec_SumBytes.l0 k l0 9 0

/-! ### spec_l3Pack: function 72 -/
mutual
def spec_l3Pack.j0 : Nat → Int → Int → Int → Int → Bool → Int → Bool → Int → Int → Option (List Int)
  | 0, _, _, _, _, _, _, _, _, _ => none
  | k + 1, x3, x157000, x157001, x157002, x157003, x157004, x157005, x157006, x157007 => if x157005 = true then (spec_l3Pack.j1 k ((x3 + 2) % 256) x157000 x157001 x157002 x157003 x157004 x157005 x157006 x157007) else (spec_l3Pack.j1 k x3 x157000 x157001 x157002 x157003 x157004 x157005 x157006 x157007)
def spec_l3Pack.j1 : Nat → Int → Int → Int → Int → Bool → Int → Bool → Int → Int → Option (List Int)
  | 0, _, _, _, _, _, _, _, _, _ => none
  | k + 1, x3, x157000, x157001, x157002, x157003, x157004, x157005, x157006, x157007 => (some (([(x157000) % 256] : List Int) : List Int)).bind fun y157 => ((spec_l1Bytes.f k x157001 2).bind fun t160 => (if y157.length + t160.length < 140737488355328 then ((some (y157 ++ t160 : List Int)).bind fun y163 => ((some (([(x157002) % 256, x3] : List Int) : List Int)).bind fun y166 => (if y163.length + y166.length < 140737488355328 then ((some (y163 ++ y166 : List Int)).bind fun y169 => ((spec_l1Bytes.f k x157004 2).bind fun t172 => (if y169.length + t172.length < 140737488355328 then ((some (y169 ++ t172 : List Int)).bind fun y175 => ((spec_l1Bytes.f k x157006 2).bind fun t178 => (if y175.length + t178.length < 140737488355328 then ((some (y175 ++ t178 : List Int)).bind fun y181 => ((spec_l1Bytes.f k x157007 2).bind fun t184 => (if y181.length + t184.length < 140737488355328 then ((some (y181 ++ t184 : List Int)).bind fun y187 => ((spec_SumBytes.f k y187).bind fun t190 => ((spec_l1Bytes.f k t190 2).bind fun t191 => (if y187.length + t191.length < 140737488355328 then (some (y187 ++ t191)) else (none))))) else (none)))) else (none)))) else (none)))) else (none)))) else (none)))
end
def spec_l3Pack.f (k : Nat) (a0_0 : Int) (a0_1 : Int) (a0_2 : Int) (a0_3 : Bool) (a0_4 : Int) (a0_5 : Bool) (a0_6 : Int) (a0_7 : Int) : Option (List Int) := if a0_3 = true then (spec_l3Pack.j0 k 1 a0_0 a0_1 a0_2 a0_3 a0_4 a0_5 a0_6 a0_7) else (spec_l3Pack.j0 k 0 a0_0 a0_1 a0_2 a0_3 a0_4 a0_5 a0_6 a0_7)

/-! ### spec_PackRec: function 17 -/
def spec_PackRec.f (k : Nat) (a0_0 : Int) (a0_1 : Int) (a0_2 : Int) (a0_3 : Bool) (a0_4 : Int) (a0_5 : Bool) (a0_6 : Int) (a0_7 : Int) : Option (Int × List Int) := (spec_RecFault.f k a0_0 a0_1 a0_2 a0_3 a0_4 a0_5 a0_6 a0_7).bind fun t199 => (if t199 = 0 then ((spec_l3Pack.f k a0_0 a0_1 a0_2 a0_3 a0_4 a0_5 a0_6 a0_7).bind fun t200 => (some (0, t200))) else (some (t199, ([] : List Int))))

/-! ### impl_put: function 112 -/
def impl_put.l0 : Nat → List Int → Int → Int → Option (List Int)
  | 0, _, _, _ => none
  | k + 1, x0, x1, x7 => if x7 ≥ 0 then (if 0 ≤ (wrap64 (8 * x7)) then (if x0.length < 140737488355328 then (impl_put.l0 k (x0 ++ [(shr .i64 x1 (wrap64 (8 * x7))) % 256]) x1 (wrap64 (x7 - 1))) else (none)) else (none)) else (some x0)
def impl_put.f (k : Nat) (l0 : List Int) (a1 : Int) (a2 : Int) : Option (List Int) := impl_put.l0 k l0 a1 (wrap64 (a2 - 1))

/-! ### impl_flag: function 113 -/
def impl_flag.f (a0 : Bool) (a1 : Int) : Option (Int) := if a0 = true then (some a1) else (some 0)

/-! ### impl_SumBytes: function 114 -/
def impl_SumBytes.l0 : Nat → Int → List Int → Int → Int → Option (Int)
  | 0, _, _, _, _ => none
  | k + 1, x3, x6, x7, x8 => if x8 < x7 then (if 0 ≤ x8 then (if x8 < (x6.length : Int) then (impl_SumBytes.l0 k (Int.tmod (wrap64 ((wrap64 ((wrap64 (x3 * 269)) + (wrap64 (rd x6 x8)))) + 1)) 65521) x6 x7 (wrap64 (x8 + 1))) else (none)) else (none)) else (some x3)
def impl_SumBytes.f (k : Nat) (l0 : List Int) : Option (Int) := impl_SumBytes.l0 k 9 l0 (l0.length : Int) 0

/-! ### impl_Rec_pack: function 73 -/
def impl_Rec_pack.f (k : Nat) (a0_0 : Int) (a0_1 : Int) (a0_2 : Int) (a0_3 : Bool) (a0_4 : Int) (a0_5 : Bool) (a0_6 : Int) (a0_7 : Int) : Option (List Int) := (impl_put.f k ([] : List Int) a0_0 1).bind fun t208 => ((impl_put.f k t208 a0_1 2).bind fun t211 => ((impl_put.f k t211 a0_2 1).bind fun t214 => ((impl_flag.f a0_3 1).bind fun t217 => ((impl_flag.f a0_5 2).bind fun t218 => ((impl_put.f k t214 (wrap64 (t217 + t218)) 1).bind fun t219 => ((impl_put.f k t219 a0_4 2).bind fun t222 => ((impl_put.f k t222 a0_6 2).bind fun t225 => ((impl_put.f k t225 a0_7 2).bind fun t228 => ((impl_SumBytes.f k t228).bind fun t231 => ((impl_put.f k t228 t231 2).bind fun t232 => (some t232)))))))))))

/-! ### impl_PackRec: function 18 -/
def impl_PackRec.f (k : Nat) (a0_0 : Int) (a0_1 : Int) (a0_2 : Int) (a0_3 : Bool) (a0_4 : Int) (a0_5 : Bool) (a0_6 : Int) (a0_7 : Int) : Option (Int × List Int) := (impl_RecFault.f k a0_0 a0_1 a0_2 a0_3 a0_4 a0_5 a0_6 a0_7).bind fun t237 => (if t237 = 0 then ((impl_Rec_pack.f k a0_0 a0_1 a0_2 a0_3 a0_4 a0_5 a0_6 a0_7).bind fun t238 => (some (0, t238))) else (some (t237, ([] : List Int))))

/-! ### laws_eqByteS: function 43 -/
def laws_eqByteS.l0 : Nat → List Int → List Int → Int → Option (Bool)
  | 0, _, _, _ => none
  | k + 1, x0, x1, x5 => if x5 < (x0.length : Int) then (if 0 ≤ x5 then (if x5 < (x1.length : Int) then (if (rd x0 x5) = (rd x1 x5) then (laws_eqByteS.l0 k x0 x1 (wrap64 (x5 + 1))) else (some false)) else (none)) else (none)) else (some true)
def laws_eqByteS.f (k : Nat) (l0 : List Int) (l1 : List Int) : Option (Bool) := if (l0.length : Int) = (l1.length : Int) then (laws_eqByteS.l0 k l0 l1 0) else (some false)

/-! ### laws_eqBytesResult: function 19 -/
def laws_eqBytesResult.f (k : Nat) (a0_0 : Int) (l0_1 : List Int) (a1_0 : Int) (l1_1 : List Int) : Option (Bool) := if a0_0 = a1_0 then ((laws_eqByteS.f k l0_1 l1_1).bind fun t245 => (if t245 = true then (some true) else (some false))) else (some false)

/-! ### laws_markByteS: function 44 -/
def laws_markByteS.l0 : Nat → List Int → Int → Int → Option (Int × List Int)
  | 0, _, _, _ => none
  | k + 1, x0, x1, x5 => if x5 < (x0.length : Int) then (if 0 ≤ x5 then (laws_markByteS.l0 k (x0.set (x5 : Int).toNat ((x1) % 256)) (wrap64 (x1 + 1)) (wrap64 (x5 + 1))) else (none)) else (some (x1, x0))
def laws_markByteS.f (k : Nat) (l0 : List Int) (a1 : Int) : Option (Int × List Int) := laws_markByteS.l0 k l0 a1 0

/-! ### laws_markBytesResult: function 20 -/
def laws_markBytesResult.f (k : Nat) (a0_0 : Int) (l0_1 : List Int) (a1 : Int) : Option (Int × List Int) := (laws_markByteS.f k l0_1 a1).bind fun bt248 => (some (bt248.1, bt248.2))

/-! ### laws_heldByteS: function 74 -/
def laws_heldByteS.l0 : Nat → List Int → Int → Int → Option (Int)
  | 0, _, _, _ => none
  | k + 1, x0, x1, x5 => if x5 < (x0.length : Int) then (if 0 ≤ x5 then (if (rd x0 x5) = ((x1) % 256) then (laws_heldByteS.l0 k x0 (wrap64 (x1 + 1)) (wrap64 (x5 + 1))) else (some (-1))) else (none)) else (some x1)
def laws_heldByteS.f (k : Nat) (l0 : List Int) (a1 : Int) : Option (Int) := laws_heldByteS.l0 k l0 a1 0

/-! ### laws_heldBytesResult: function 21 -/
def laws_heldBytesResult.f (k : Nat) (a0_0 : Int) (l0_1 : List Int) (a1 : Int) : Option (Int) := (laws_heldByteS.f k l0_1 a1).bind fun t252 => (if t252 < 0 then (some (-1)) else (some t252))

/-! ### laws_FnExactPackRec: function 4 -/
def laws_FnExactPackRec.f (k : Nat) (a0_0 : Int) (a0_1 : Int) (a0_2 : Int) (a0_3 : Bool) (a0_4 : Int) (a0_5 : Bool) (a0_6 : Int) (a0_7 : Int) : Option (Bool) := (laws_toRec.f a0_0 a0_1 a0_2 a0_3 a0_4 a0_5 a0_6 a0_7).bind fun bt254 => ((spec_PackRec.f k bt254.1 bt254.2.1 bt254.2.2.1 bt254.2.2.2.1 bt254.2.2.2.2.1 bt254.2.2.2.2.2.1 bt254.2.2.2.2.2.2.1 bt254.2.2.2.2.2.2.2).bind fun bt262 => ((laws_toRec.f a0_0 a0_1 a0_2 a0_3 a0_4 a0_5 a0_6 a0_7).bind fun bt267 => ((impl_PackRec.f k bt267.1 bt267.2.1 bt267.2.2.1 bt267.2.2.2.1 bt267.2.2.2.2.1 bt267.2.2.2.2.2.1 bt267.2.2.2.2.2.2.1 bt267.2.2.2.2.2.2.2).bind fun bt275 => ((laws_eqBytesResult.f k bt275.1 bt275.2 bt262.1 bt262.2).bind fun t280 => (if t280 = true then ((laws_markBytesResult.f k bt275.1 bt275.2 1).bind fun bt281 => ((laws_heldBytesResult.f k bt275.1 bt281.2 1).bind fun t283 => (if t283 < 0 then (some false) else (if t283 = bt281.1 then ((laws_toRec.f a0_0 a0_1 a0_2 a0_3 a0_4 a0_5 a0_6 a0_7).bind fun bt284 => ((impl_PackRec.f k bt284.1 bt284.2.1 bt284.2.2.1 bt284.2.2.2.1 bt284.2.2.2.2.1 bt284.2.2.2.2.2.1 bt284.2.2.2.2.2.2.1 bt284.2.2.2.2.2.2.2).bind fun bt292 => ((laws_eqBytesResult.f k bt292.1 bt292.2 bt262.1 bt262.2).bind fun t297 => (if t297 = true then ((laws_heldBytesResult.f k bt275.1 bt281.2 1).bind fun t298 => (if t298 < 0 then (some false) else (if t298 = bt281.1 then (some true) else (some false)))) else (some false))))) else (some false))))) else (some false))))))

/-! ### laws_szByteS: function 75 -/
def laws_szByteS.f (l0 : List Int) (a1 : Int) : Option (Int) := if (wrap64 (a1 - (l0.length : Int))) < 0 then (some (-1)) else (some (wrap64 (a1 - (l0.length : Int))))

/-! ### laws_szLog: function 22 -/
def laws_szLog.f (l0_0 : List Int) (l0_1 : List Int) (a1 : Int) : Option (Int) := (laws_szByteS.f l0_0 a1).bind fun t300 => (if t300 < 0 then (some (-1)) else ((laws_szByteS.f l0_1 t300).bind fun t301 => (if t301 < 0 then (some (-1)) else (some t301))))

/-! ### spec_l3All: function 76 -/
def spec_l3All.f (l0_0 : List Int) (l0_1 : List Int) : Option (List Int) := (some (([] : List Int) : List Int)).bind fun y303 => (if y303.length + l0_0.length < 140737488355328 then ((some (y303 ++ l0_0 : List Int)).bind fun y306 => (if y306.length + l0_1.length < 140737488355328 then (some (y306 ++ l0_1)) else (none))) else (none))

/-! ### spec_l1Take: function 115 -/
def spec_l1Take.l0 : Nat → List Int → Int → Int → Int → Int → Option (Int)
  | 0, _, _, _, _, _ => none
  | k + 1, x0, x1, x2, x7, x8 => if x8 < x2 then (if 0 ≤ (wrap64 (x1 + x8)) then (if (wrap64 (x1 + x8)) < (x0.length : Int) then (spec_l1Take.l0 k x0 x1 x2 (wrap64 ((wrap64 (x7 * 256)) + (wrap64 (rd x0 (wrap64 (x1 + x8)))))) (wrap64 (x8 + 1))) else (none)) else (none)) else (some x7)
def spec_l1Take.f (k : Nat) (l0 : List Int) (a1 : Int) (a2 : Int) : Option (Int) := spec_l1Take.l0 k l0 a1 a2 0 0

/-! ### laws_toByteS: function 40 -/
def laws_toByteS.l0 : Nat → List Int → List Int → Int → Option (List Int)
  | 0, _, _, _ => none
  | k + 1, x0, x3, x4 => if x4 < (x0.length : Int) then (if 0 ≤ x4 then (if x4 < (x3.length : Int) then (laws_toByteS.l0 k x0 (x3.set (x4 : Int).toNat (rd x0 x4)) (wrap64 (x4 + 1))) else (none)) else (none)) else (some x3)
def laws_toByteS.f (k : Nat) (l0 : List Int) : Option (List Int) := if 0 ≤ (l0.length : Int) then (if ((l0.length : Int) : Int).toNat ≤ 281474976710656 then (laws_toByteS.l0 k l0 (List.replicate ((l0.length : Int) : Int).toNat 0) 0) else (none)) else (none)

/-! ### laws_toLog: function 24 -/
def laws_toLog.f (k : Nat) (l0_0 : List Int) (l0_1 : List Int) : Option (List Int × List Int) := (laws_toByteS.f k l0_0).bind fun t345 => ((laws_toByteS.f k l0_1).bind fun t348 => (some (t345, t348)))

/-! ### impl_take: function 116 -/
def impl_take.l0 : Nat → Int → List Int → Int → Int → Option (Int)
  | 0, _, _, _, _ => none
  | k + 1, x3, x6, x7, x8 => if x8 < x7 then (if 0 ≤ x8 then (if x8 < (x6.length : Int) then (impl_take.l0 k (Go.bits .or .i64 (wrap64 (x3 * 256)) (wrap64 (rd x6 x8))) x6 x7 (wrap64 (x8 + 1))) else (none)) else (none)) else (some x3)
def impl_take.f (k : Nat) (l0 : List Int) : Option (Int) := impl_take.l0 k 0 l0 (l0.length : Int) 0

/-! ### slices_Equal_byte: function 117 -/
def slices_Equal_byte.l0 : Nat → List Int → List Int → Int → Int → Option (Bool)
  | 0, _, _, _, _ => none
  | k + 1, x0, x1, x12, x13 => if x13 < x12 then (if 0 ≤ x13 then (if x13 < (x0.length : Int) then (if x13 < (x1.length : Int) then (if (rd x0 x13) = (rd x1 x13) then (slices_Equal_byte.l0 k x0 x1 x12 (wrap64 (x13 + 1))) else (some false)) else (none)) else (none)) else (none)) else (some true)
def slices_Equal_byte.f (k : Nat) (l0 : List Int) (l1 : List Int) : Option (Bool) := if (l0.length : Int) = (l1.length : Int) then (slices_Equal_byte.l0 k l0 l1 (l0.length : Int) 0) else (some false)

/-! ### laws_eqLog: function 26 -/
def laws_eqLog.f (k : Nat) (l0_0 : List Int) (l0_1 : List Int) (l1_0 : List Int) (l1_1 : List Int) : Option (Bool) := (laws_eqByteS.f k l0_0 l1_0).bind fun t422 => (if t422 = true then ((laws_eqByteS.f k l0_1 l1_1).bind fun t423 => (if t423 = true then (some true) else (some false))) else (some false))

/-! ### laws_szRecS: function 27 -/
def laws_szRecS.f (l0 : List (S23)) (a1 : Int) : Option (Int) := if (wrap64 (a1 - (l0.length : Int))) < 0 then (some (-1)) else (some (wrap64 (a1 - (l0.length : Int))))

/-! ### spec_l1Has: function 118 -/
def spec_l1Has.l0 : Nat → List Int → Int → Int → Option (Bool)
  | 0, _, _, _ => none
  | k + 1, x0, x1, x5 => if x5 < (x0.length : Int) then (if 0 ≤ x5 then (if (rd x0 x5) = x1 then (some true) else (spec_l1Has.l0 k x0 x1 (wrap64 (x5 + 1)))) else (none)) else (some false)
def spec_l1Has.f (k : Nat) (l0 : List Int) (a1 : Int) : Option (Bool) := spec_l1Has.l0 k l0 a1 0

/-! ### spec_l3Back: function 80 -/
def spec_l3Back.l0 : Nat → List (S25) → Int → List Int → List Int → Int → Option (List Int)
  | 0, _, _, _, _, _ => none
  | k + 1, x0, x1, x5, x6, x7 => if x7 ≥ 0 then (if 0 ≤ x7 then (if x7 < (x0.length : Int) then (if ((rd_T25 x0 x7).f1) = x1 then (if ((rd_T25 x0 x7).f0) = 5 then (if x5.length < 17592186044416 then ((some (x5 ++ [(rd_T25 x0 x7).f7] : List Int)).bind fun y441 => (if ((rd_T25 x0 x7).f0) = 2 then ((spec_l1Has.f k y441 (wrap64 (x7 + 1))).bind fun t444 => (if t444 = true then (spec_l3Back.l0 k x0 x1 y441 x6 (wrap64 (x7 - 1))) else (if x6.length < 17592186044416 then (spec_l3Back.l0 k x0 x1 y441 (x6 ++ [wrap64 (x7 + 1)]) (wrap64 (x7 - 1))) else (none)))) else (spec_l3Back.l0 k x0 x1 y441 x6 (wrap64 (x7 - 1))))) else (none)) else (if ((rd_T25 x0 x7).f0) = 2 then ((spec_l1Has.f k x5 (wrap64 (x7 + 1))).bind fun t448 => (if t448 = true then (spec_l3Back.l0 k x0 x1 x5 x6 (wrap64 (x7 - 1))) else (if x6.length < 17592186044416 then (spec_l3Back.l0 k x0 x1 x5 (x6 ++ [wrap64 (x7 + 1)]) (wrap64 (x7 - 1))) else (none)))) else (spec_l3Back.l0 k x0 x1 x5 x6 (wrap64 (x7 - 1))))) else (spec_l3Back.l0 k x0 x1 x5 x6 (wrap64 (x7 - 1)))) else (none)) else (none)) else (some x6)
def spec_l3Back.f (k : Nat) (l0 : List (S25)) (a1 : Int) : Option (List Int) := spec_l3Back.l0 k l0 a1 (([] : List Int)) (([] : List Int)) (wrap64 ((l0.length : Int) - 1))

/-! ### spec_ChainBack: function 28 -/
def spec_ChainBack.l0 : Nat → List (S25) → Int → Int → Option (Int × List Int)
  | 0, _, _, _ => none
  | k + 1, x0, x1, x5 => if x5 < (x0.length : Int) then (if 0 ≤ x5 then ((spec_RecFault.f k ((rd_T25 x0 x5).f0) ((rd_T25 x0 x5).f1) ((rd_T25 x0 x5).f2) ((rd_T25 x0 x5).f3) ((rd_T25 x0 x5).f4) ((rd_T25 x0 x5).f5) ((rd_T25 x0 x5).f6) ((rd_T25 x0 x5).f7)).bind fun t454 => (if t454 = 0 then (spec_ChainBack.l0 k x0 x1 (wrap64 (x5 + 1))) else (some (t454, ([] : List Int))))) else (none)) else ((spec_l3Txn.f x1).bind fun t455 => (if t455 = true then ((spec_l3Back.f k x0 x1).bind fun t456 => (some (0, t456))) else (some (3, ([] : List Int)))))
def spec_ChainBack.f (k : Nat) (l0 : List (S25)) (a1 : Int) : Option (Int × List Int) := if (l0.length : Int) > 400 then (some (2, ([] : List Int))) else (spec_ChainBack.l0 k l0 a1 0)

/-! ### laws_toRecS: function 29 -/
def laws_toRecS.l0 : Nat → List (S23) → List (S25) → Int → Option ((List (S25)))
  | 0, _, _, _ => none
  | k + 1, x0, x3, x4 => if x4 < (x0.length : Int) then (if 0 ≤ x4 then ((laws_toRec.f ((rd_T23 x0 x4).f0) ((rd_T23 x0 x4).f1) ((rd_T23 x0 x4).f2) ((rd_T23 x0 x4).f3) ((rd_T23 x0 x4).f4) ((rd_T23 x0 x4).f5) ((rd_T23 x0 x4).f6) ((rd_T23 x0 x4).f7)).bind fun bt463 => (if x4 < (x3.length : Int) then (laws_toRecS.l0 k x0 (x3.set (x4 : Int).toNat (⟨bt463.1, bt463.2.1, bt463.2.2.1, bt463.2.2.2.1, bt463.2.2.2.2.1, bt463.2.2.2.2.2.1, bt463.2.2.2.2.2.2.1, bt463.2.2.2.2.2.2.2⟩ : S25)) (wrap64 (x4 + 1))) else (none))) else (none)) else (some x3)
def laws_toRecS.f (k : Nat) (l0 : List (S23)) : Option ((List (S25))) := if 0 ≤ (l0.length : Int) then (if ((l0.length : Int) : Int).toNat ≤ 4398046511104 then (laws_toRecS.l0 k l0 (List.replicate ((l0.length : Int) : Int).toNat z25) 0) else (none)) else (none)

/-! ### impl_recsFault: function 81 -/
def impl_recsFault.l0 : Nat → List (S25) → Int → Int → Option (Int)
  | 0, _, _, _ => none
  | k + 1, x9, x10, x11 => if x11 < x10 then (if 0 ≤ x11 then (if x11 < (x9.length : Int) then ((impl_RecFault.f k ((rd_T25 x9 x11).f0) ((rd_T25 x9 x11).f1) ((rd_T25 x9 x11).f2) ((rd_T25 x9 x11).f3) ((rd_T25 x9 x11).f4) ((rd_T25 x9 x11).f5) ((rd_T25 x9 x11).f6) ((rd_T25 x9 x11).f7)).bind fun t474 => (if t474 = 0 then (impl_recsFault.l0 k x9 x10 (wrap64 (x11 + 1))) else (some t474))) else (none)) else (none)) else (some 0)
def impl_recsFault.f (k : Nat) (l0 : List (S25)) : Option (Int) := if (l0.length : Int) > 400 then (some 2) else (impl_recsFault.l0 k l0 (l0.length : Int) 0)

/-! ### slices_IndexFunc_impl_Rec: function 128 -/

/-! ### slices_ContainsFunc_impl_Rec: function 119 -/

/-! ### laws_eqInt64S: function 83 -/
def laws_eqInt64S.l0 : Nat → List Int → List Int → Int → Option (Bool)
  | 0, _, _, _ => none
  | k + 1, x0, x1, x5 => if x5 < (x0.length : Int) then (if 0 ≤ x5 then (if x5 < (x1.length : Int) then (if (rd x0 x5) = (rd x1 x5) then (laws_eqInt64S.l0 k x0 x1 (wrap64 (x5 + 1))) else (some false)) else (none)) else (none)) else (some true)
def laws_eqInt64S.f (k : Nat) (l0 : List Int) (l1 : List Int) : Option (Bool) := if (l0.length : Int) = (l1.length : Int) then (laws_eqInt64S.l0 k l0 l1 0) else (some false)

/-! ### laws_eqIntsResult: function 31 -/
def laws_eqIntsResult.f (k : Nat) (a0_0 : Int) (l0_1 : List Int) (a1_0 : Int) (l1_1 : List Int) : Option (Bool) := if a0_0 = a1_0 then ((laws_eqInt64S.f k l0_1 l1_1).bind fun t482 => (if t482 = true then (some true) else (some false))) else (some false)

/-! ### laws_eqRec: function 84 -/
def laws_eqRec.f (a0_0 : Int) (a0_1 : Int) (a0_2 : Int) (a0_3 : Bool) (a0_4 : Int) (a0_5 : Bool) (a0_6 : Int) (a0_7 : Int) (a1_0 : Int) (a1_1 : Int) (a1_2 : Int) (a1_3 : Bool) (a1_4 : Int) (a1_5 : Bool) (a1_6 : Int) (a1_7 : Int) : Option (Bool) := if a0_0 = a1_0 then (if a0_1 = a1_1 then (if a0_2 = a1_2 then (if (a0_3 != a1_3) = true then (some false) else (if a0_4 = a1_4 then (if (a0_5 != a1_5) = true then (some false) else (if a0_6 = a1_6 then (if a0_7 = a1_7 then (some true) else (some false)) else (some false))) else (some false))) else (some false)) else (some false)) else (some false)

/-! ### laws_eqRecS: function 32 -/
def laws_eqRecS.l0 : Nat → List (S25) → List (S25) → Int → Option (Bool)
  | 0, _, _, _ => none
  | k + 1, x0, x1, x5 => if x5 < (x0.length : Int) then (if 0 ≤ x5 then (if x5 < (x1.length : Int) then ((laws_eqRec.f ((rd_T25 x0 x5).f0) ((rd_T25 x0 x5).f1) ((rd_T25 x0 x5).f2) ((rd_T25 x0 x5).f3) ((rd_T25 x0 x5).f4) ((rd_T25 x0 x5).f5) ((rd_T25 x0 x5).f6) ((rd_T25 x0 x5).f7) ((rd_T25 x1 x5).f0) ((rd_T25 x1 x5).f1) ((rd_T25 x1 x5).f2) ((rd_T25 x1 x5).f3) ((rd_T25 x1 x5).f4) ((rd_T25 x1 x5).f5) ((rd_T25 x1 x5).f6) ((rd_T25 x1 x5).f7)).bind fun t487 => (if t487 = true then (laws_eqRecS.l0 k x0 x1 (wrap64 (x5 + 1))) else (some false))) else (none)) else (none)) else (some true)
def laws_eqRecS.f (k : Nat) (l0 : List (S25)) (l1 : List (S25)) : Option (Bool) := if (l0.length : Int) = (l1.length : Int) then (laws_eqRecS.l0 k l0 l1 0) else (some false)

/-! ### laws_markRecS: function 33 -/
def laws_markRecS.l0 : Nat → List (S25) → Int → Int → Option (Int × (List (S25)))
  | 0, _, _, _ => none
  | k + 1, x0, x1, x5 => if x5 < (x0.length : Int) then (if 0 ≤ x5 then ((some (x0.set (x5 : Int).toNat (⟨x1, (rd_T25 x0 x5).f1, (rd_T25 x0 x5).f2, (rd_T25 x0 x5).f3, (rd_T25 x0 x5).f4, (rd_T25 x0 x5).f5, (rd_T25 x0 x5).f6, (rd_T25 x0 x5).f7⟩ : S25) : List (S25))).bind fun y488 => ((some (y488.set (x5 : Int).toNat (⟨(rd_T25 y488 x5).f0, wrap64 (x1 + 1), (rd_T25 y488 x5).f2, (rd_T25 y488 x5).f3, (rd_T25 y488 x5).f4, (rd_T25 y488 x5).f5, (rd_T25 y488 x5).f6, (rd_T25 y488 x5).f7⟩ : S25) : List (S25))).bind fun y489 => ((some (y489.set (x5 : Int).toNat (⟨(rd_T25 y489 x5).f0, (rd_T25 y489 x5).f1, wrap64 ((wrap64 (x1 + 1)) + 1), (rd_T25 y489 x5).f3, (rd_T25 y489 x5).f4, (rd_T25 y489 x5).f5, (rd_T25 y489 x5).f6, (rd_T25 y489 x5).f7⟩ : S25) : List (S25))).bind fun y490 => ((some (y490.set (x5 : Int).toNat (⟨(rd_T25 y490 x5).f0, (rd_T25 y490 x5).f1, (rd_T25 y490 x5).f2, ((Int.tmod (wrap64 ((wrap64 ((wrap64 (x1 + 1)) + 1)) + 1)) 3) == 0), (rd_T25 y490 x5).f4, (rd_T25 y490 x5).f5, (rd_T25 y490 x5).f6, (rd_T25 y490 x5).f7⟩ : S25) : List (S25))).bind fun y491 => ((some (y491.set (x5 : Int).toNat (⟨(rd_T25 y491 x5).f0, (rd_T25 y491 x5).f1, (rd_T25 y491 x5).f2, (rd_T25 y491 x5).f3, wrap64 ((wrap64 ((wrap64 ((wrap64 (x1 + 1)) + 1)) + 1)) + 1), (rd_T25 y491 x5).f5, (rd_T25 y491 x5).f6, (rd_T25 y491 x5).f7⟩ : S25) : List (S25))).bind fun y492 => ((some (y492.set (x5 : Int).toNat (⟨(rd_T25 y492 x5).f0, (rd_T25 y492 x5).f1, (rd_T25 y492 x5).f2, (rd_T25 y492 x5).f3, (rd_T25 y492 x5).f4, ((Int.tmod (wrap64 ((wrap64 ((wrap64 ((wrap64 ((wrap64 (x1 + 1)) + 1)) + 1)) + 1)) + 1)) 3) == 0), (rd_T25 y492 x5).f6, (rd_T25 y492 x5).f7⟩ : S25) : List (S25))).bind fun y493 => ((some (y493.set (x5 : Int).toNat (⟨(rd_T25 y493 x5).f0, (rd_T25 y493 x5).f1, (rd_T25 y493 x5).f2, (rd_T25 y493 x5).f3, (rd_T25 y493 x5).f4, (rd_T25 y493 x5).f5, wrap64 ((wrap64 ((wrap64 ((wrap64 ((wrap64 ((wrap64 (x1 + 1)) + 1)) + 1)) + 1)) + 1)) + 1), (rd_T25 y493 x5).f7⟩ : S25) : List (S25))).bind fun y494 => (laws_markRecS.l0 k (y494.set (x5 : Int).toNat (⟨(rd_T25 y494 x5).f0, (rd_T25 y494 x5).f1, (rd_T25 y494 x5).f2, (rd_T25 y494 x5).f3, (rd_T25 y494 x5).f4, (rd_T25 y494 x5).f5, (rd_T25 y494 x5).f6, wrap64 ((wrap64 ((wrap64 ((wrap64 ((wrap64 ((wrap64 ((wrap64 (x1 + 1)) + 1)) + 1)) + 1)) + 1)) + 1)) + 1)⟩ : S25)) (wrap64 ((wrap64 ((wrap64 ((wrap64 ((wrap64 ((wrap64 ((wrap64 ((wrap64 (x1 + 1)) + 1)) + 1)) + 1)) + 1)) + 1)) + 1)) + 1)) (wrap64 (x5 + 1)))))))))) else (none)) else (some (x1, x0))
def laws_markRecS.f (k : Nat) (l0 : List (S25)) (a1 : Int) : Option (Int × (List (S25))) := laws_markRecS.l0 k l0 a1 0

/-! ### laws_markInt64S: function 85 -/
def laws_markInt64S.l0 : Nat → List Int → Int → Int → Option (Int × List Int)
  | 0, _, _, _ => none
  | k + 1, x0, x1, x5 => if x5 < (x0.length : Int) then (if 0 ≤ x5 then (laws_markInt64S.l0 k (x0.set (x5 : Int).toNat x1) (wrap64 (x1 + 1)) (wrap64 (x5 + 1))) else (none)) else (some (x1, x0))
def laws_markInt64S.f (k : Nat) (l0 : List Int) (a1 : Int) : Option (Int × List Int) := laws_markInt64S.l0 k l0 a1 0

/-! ### laws_markIntsResult: function 34 -/
def laws_markIntsResult.f (k : Nat) (a0_0 : Int) (l0_1 : List Int) (a1 : Int) : Option (Int × List Int) := (laws_markInt64S.f k l0_1 a1).bind fun bt498 => (some (bt498.1, bt498.2))

/-! ### laws_heldInt64S: function 86 -/
def laws_heldInt64S.l0 : Nat → List Int → Int → Int → Option (Int)
  | 0, _, _, _ => none
  | k + 1, x0, x1, x5 => if x5 < (x0.length : Int) then (if 0 ≤ x5 then (if (rd x0 x5) = x1 then (laws_heldInt64S.l0 k x0 (wrap64 (x1 + 1)) (wrap64 (x5 + 1))) else (some (-1))) else (none)) else (some x1)
def laws_heldInt64S.f (k : Nat) (l0 : List Int) (a1 : Int) : Option (Int) := laws_heldInt64S.l0 k l0 a1 0

/-! ### laws_heldIntsResult: function 35 -/
def laws_heldIntsResult.f (k : Nat) (a0_0 : Int) (l0_1 : List Int) (a1 : Int) : Option (Int) := (laws_heldInt64S.f k l0_1 a1).bind fun t502 => (if t502 < 0 then (some (-1)) else (some t502))

/-! ### laws_lwBig: function 36 -/
def laws_lwBig.f (l0 : List Int) : Option (Bool) := some (decide ((l0.length : Int) > 1048576))

/-- A state of type 132 at block g of W; what its slices lead to came in by w0. -/
def IsS132 (w0 W : World) (g : Nat) (f0 : List Int) (f1 : Int) : Prop := ∃ A0 c0, W.heap[g]? = some (.cells #[.slice A0 f0.length c0, .int .i64 f1] 132 (0, 0)) ∧ w0.heap.size ≤ g ∧ Kd.C (Kd.int .u8) w0 A0 f0.length f0
theorem IsS132.grown {w0 W : World} {g : Nat} {f0 : List Int} {f1 : Int} {W1 : World} {row : Option Nat} (h : IsS132 w0 W g f0 f1) (hw : W.grownBy W1 row) (hne : some g ≠ row) : IsS132 w0 W1 g f0 f1 := by
  obtain ⟨A0, c0, hb, hg, hr0⟩ := h
  exact ⟨A0, c0, blk_grown hb hw hne, hg, hr0⟩
theorem IsS132.own_neN {w0 W : World} {g : Nat} {f0 : List Int} {f1 : Int} {α : Type} {d : Kd α} {e : Nat} {base : Nat} {ok : Nat → Prop} {v : Value} {xs : List α} (h : IsS132 w0 W g f0 f1) (ho : Kd.N d e W base ok v xs) (ht : e ≠ 132) : some g ≠ v.ownBlock := by
  obtain ⟨A0, c0, hb, hg, hr0⟩ := h
  exact Kd.N_ne ho hb ht
theorem IsS132.fresh {w0 W : World} {g : Nat} {f0 : List Int} {f1 : Int} (h : IsS132 w0 W g f0 f1) : ∀ k, W.heap.size ≤ k → k ≠ g := by
  obtain ⟨A0, c0, hb, hg, hr0⟩ := h
  exact Kd.freshB hb
theorem IsS132.kept {w0 W : World} {g : Nat} {f0 : List Int} {f1 : Int} {W1 : World} {S : Nat → Prop} (h : IsS132 w0 W g f0 f1) (hk : Kept W W1 S) (hne : ¬ S g) : IsS132 w0 W1 g f0 f1 := by
  obtain ⟨A0, c0, hb, hg, hr0⟩ := h
  exact ⟨A0, c0, blk_kept hb hk hne, hg, hr0⟩
theorem IsS132.below {w0 W : World} {g : Nat} {f0 : List Int} {f1 : Int} {W1 : World} (h : IsS132 w0 W g f0 f1) (hw : Below W.heap.size W W1) : IsS132 w0 W1 g f0 f1 := h.grown (grown_of_below hw none) (by simp)
theorem IsS132.alloc {w0 W : World} {g : Nat} {f0 : List Int} {f1 : Int} (h : IsS132 w0 W g f0 f1) (o : Obj) : IsS132 w0 (W.alloc o) g f0 f1 := h.below (below_alloc (Below.refl _ _) o)
theorem IsS132.drewN {w0 W : World} {g : Nat} {f0 : List Int} {f1 : Int} (h : IsS132 w0 W g f0 f1) (m : Nat) : IsS132 w0 (W.drewN m) g f0 f1 := h
theorem IsS132.drew {w0 W : World} {g : Nat} {f0 : List Int} {f1 : Int} (h : IsS132 w0 W g f0 f1) : IsS132 w0 W.drew g f0 f1 := h
theorem IsS132.at_ {w0 W : World} {g : Nat} {f0 : List Int} {f1 : Int} {w' : World} {m : Nat} (hq : W.drewN m = w') (h : IsS132 w0 W g f0 f1) : IsS132 w0 w' g f0 f1 := by subst hq; exact IsS132.drewN h m
theorem IsS132.apart {w0 W : World} {g : Nat} {f0 : List Int} {f1 : Int} {α : Type} {d : Kd α} {e : Nat} {base : Nat} {ok : Nat → Prop} {v : Value} {xs : List α} (h : IsS132 w0 W g f0 f1) (ho : d.R e W base ok v xs) (ht : ∀ q, q ∈ e :: d.E → q ≠ 132) : d.R e W base (fun k => ok k ∧ k ≠ g) v xs := by
  obtain ⟨A0, c0, hb, hg, hr0⟩ := h
  exact Kd.R_types ho hb ht
theorem IsS132.own_ne {w0 W : World} {g : Nat} {f0 : List Int} {f1 : Int} {α : Type} {d : Kd α} {e : Nat} {base : Nat} {ok : Nat → Prop} {v : Value} {xs : List α} (h : IsS132 w0 W g f0 f1) (ho : d.R e W base ok v xs) (ht : e ≠ 132) : some g ≠ v.ownBlock := by
  obtain ⟨A0, c0, hb, hg, hr0⟩ := h
  exact Kd.R_ne ho hb ht
theorem IsS132.apartQ {w0 W : World} {g : Nat} {f0 : List Int} {f1 : Int} {α : Type} {d : Kd α} {e : Nat} {base : Nat} {ok : Nat → Prop} {v : Value} {xs : List α} (h : IsS132 w0 W g f0 f1) (ho : d.Q e W base ok v xs) (ht : ∀ q, q ∈ e :: d.E → q ≠ 132) : d.Q e W base (fun k => ok k ∧ k ≠ g) v xs := by
  obtain ⟨A0, c0, hb, hg, hr0⟩ := h
  exact Kd.Q_types ho hb ht
theorem IsS132.own_neQ {w0 W : World} {g : Nat} {f0 : List Int} {f1 : Int} {α : Type} {d : Kd α} {e : Nat} {base : Nat} {ok : Nat → Prop} {v : Value} {xs : List α} (h : IsS132 w0 W g f0 f1) (ho : d.Q e W base ok v xs) (ht : e ≠ 132) : some g ≠ v.ownBlock := by
  obtain ⟨A0, c0, hb, hg, hr0⟩ := h
  exact Kd.Q_ne ho hb ht
theorem IsS132.apartS {w0 W : World} {g : Nat} {f0 : List Int} {f1 : Int} {α : Type} {d : Kd α} {e : Nat} {base : Nat} {ok : Nat → Prop} {v : Value} {xs : List α} (h : IsS132 w0 W g f0 f1) (ho : d.S e W base ok v xs) (ht : ∀ q, q ∈ e :: d.E → q ≠ 132) : d.S e W base (fun k => ok k ∧ k ≠ g) v xs := by
  obtain ⟨A0, c0, hb, hg, hr0⟩ := h
  exact Kd.S_types ho hb ht
theorem IsS132.own_neS {w0 W : World} {g : Nat} {f0 : List Int} {f1 : Int} {α : Type} {d : Kd α} {e : Nat} {base : Nat} {ok : Nat → Prop} {v : Value} {xs : List α} (h : IsS132 w0 W g f0 f1) (ho : d.S e W base ok v xs) (ht : e ≠ 132) : some g ≠ v.ownBlock := by
  obtain ⟨A0, c0, hb, hg, hr0⟩ := h
  exact Kd.S_ne ho hb ht
theorem IsS132.lt {w0 W : World} {g : Nat} {f0 : List Int} {f1 : Int} (h : IsS132 w0 W g f0 f1) : g < W.heap.size := by
  obtain ⟨A0, c0, hb, hg, hr0⟩ := h
  exact blk_lt hb
theorem IsS132.ge {w0 W : World} {g : Nat} {f0 : List Int} {f1 : Int} (h : IsS132 w0 W g f0 f1) : w0.heap.size ≤ g := by
  obtain ⟨A0, c0, hb, hg, hr0⟩ := h
  exact hg
theorem IsS132.ne_blk {w0 W : World} {g : Nat} {f0 : List Int} {f1 : Int} {a : Nat} {cs : Array Value} {t : TypeId} {fr : Nat × Nat} (h : IsS132 w0 W g f0 f1) (hb2 : W.heap[a]? = some (.cells cs t fr)) (ht : t ≠ 132) : g ≠ a := by
  obtain ⟨A0, c0, hb, hg, hr0⟩ := h
  rintro rfl
  rw [hb] at hb2
  injection hb2 with hb2
  injection hb2 with _ ht2
  exact ht ht2.symm
theorem IsS132.far {w0 W : World} {g : Nat} {f0 : List Int} {f1 : Int} {p : Addr} (h : IsS132 w0 W g f0 f1) (hne : g ≠ p.block) (u : Value) : IsS132 w0 (W.setCell p u) g f0 f1 := by
  obtain ⟨A0, c0, hb, hg, hr0⟩ := h
  exact ⟨A0, c0, blk_far hb hne u, hg, hr0⟩
theorem cellS132_0 {W : World} {g : Nat} {A0 : Option Addr} {c0 : Nat} {f0 : List Int} {f1 : Int} (h : W.heap[g]? = some (.cells #[.slice A0 f0.length c0, .int .i64 f1] 132 (0, 0))) : W.cell? ⟨g, 0, none⟩ = some (.slice A0 f0.length c0) := (blk_cell h 0).trans rfl
theorem cellS132_1 {W : World} {g : Nat} {A0 : Option Addr} {c0 : Nat} {f0 : List Int} {f1 : Int} (h : W.heap[g]? = some (.cells #[.slice A0 f0.length c0, .int .i64 f1] 132 (0, 0))) : W.cell? ⟨g, 1, none⟩ = some (.int .i64 f1) := (blk_cell h 1).trans rfl
theorem IsS132.set_1 {w0 W : World} {g : Nat} {f0 : List Int} {f1 : Int} (h : IsS132 w0 W g f0 f1) (x : Int) : IsS132 w0 (W.setCell ⟨g, 1, none⟩ (.int .i64 x)) g f0 x := by
  obtain ⟨A0, c0, hb, hg, hr0⟩ := h
  exact ⟨A0, c0, by simpa using blk_set hb 1 (.int .i64 x), hg, hr0⟩
theorem IsS132.new (w0 W : World) (A0 : Option Addr) (c0 : Nat) (f0 : List Int) (f1 : Int) (hB : Below w0.heap.size w0 W) (hr0 : Kd.C (Kd.int .u8) w0 A0 f0.length f0) : IsS132 w0 (W.alloc (.cells #[.slice A0 f0.length c0, .int .i64 f1] 132)) W.heap.size f0 f1 := ⟨A0, c0, by simpa using heap_alloc_new W _, hB.size, hr0⟩

/-! ### spec_l1Source: function 87 -/
def spec_l1Source.f (l0 : List Int) : Option (List Int × Int) := some (l0, 0)

/-! ### spec_l1Next: function 88 -/
def spec_l1Next.f (s0_0 : List Int) (s0_1 : Int) (a1 : Int) : Option (Int × Int) := if a1 < 1 then (some (0, wrap64 (s0_1 + 1))) else (if (s0_0.length : Int) = 0 then (if a1 = 0 then (none) else (some (Int.tmod (wrap64 ((wrap64 ((wrap64 (s0_1 + 1)) - 1)) * 7)) a1, wrap64 (s0_1 + 1)))) else (if 0 ≤ (Int.tmod (wrap64 ((wrap64 (s0_1 + 1)) - 1)) (s0_0.length : Int)) then (if (Int.tmod (wrap64 ((wrap64 (s0_1 + 1)) - 1)) (s0_0.length : Int)) < (s0_0.length : Int) then (if a1 > 200 then (if 0 ≤ (Int.tmod (wrap64 ((wrap64 ((wrap64 (s0_1 + 1)) - 1)) + 1)) (s0_0.length : Int)) then (if (Int.tmod (wrap64 ((wrap64 ((wrap64 (s0_1 + 1)) - 1)) + 1)) (s0_0.length : Int)) < (s0_0.length : Int) then (if a1 = 0 then (none) else (some (Int.tmod (wrap64 ((wrap64 ((wrap64 ((wrap64 ((wrap64 (rd s0_0 (Int.tmod (wrap64 ((wrap64 (s0_1 + 1)) - 1)) (s0_0.length : Int)))) + (wrap64 ((wrap64 (Int.tdiv (wrap64 ((wrap64 (s0_1 + 1)) - 1)) (s0_0.length : Int))) * 37)))) * 251)) + (wrap64 ((wrap64 (rd s0_0 (Int.tmod (wrap64 ((wrap64 ((wrap64 (s0_1 + 1)) - 1)) + 1)) (s0_0.length : Int)))) * 13)))) + (wrap64 ((wrap64 (s0_1 + 1)) - 1)))) a1, wrap64 (s0_1 + 1)))) else (none)) else (none)) else (if a1 = 0 then (none) else (some (Int.tmod (wrap64 ((wrap64 (rd s0_0 (Int.tmod (wrap64 ((wrap64 (s0_1 + 1)) - 1)) (s0_0.length : Int)))) + (wrap64 ((wrap64 (Int.tdiv (wrap64 ((wrap64 (s0_1 + 1)) - 1)) (s0_0.length : Int))) * 37)))) a1, wrap64 (s0_1 + 1))))) else (none)) else (none)))

/-! ### spec_l1Chance: function 90 -/
def spec_l1Chance.f (s0_0 : List Int) (s0_1 : Int) (a1 : Int) : Option (Bool × Int) := (spec_l1Next.f s0_0 s0_1 a1).bind fun bt518 => (some ((bt518.1 == 0), bt518.2))

/-! ### spec_l1Pick: function 92 -/
def spec_l1Pick.f (s0_0 : List Int) (s0_1 : Int) (l1 : List Int) : Option (Int × Int) := (spec_l1Next.f s0_0 s0_1 (l1.length : Int)).bind fun bt520 => (if 0 ≤ bt520.1 then (if bt520.1 < (l1.length : Int) then (some (rd l1 bt520.1, bt520.2)) else (none)) else (none))

/-! ### spec_l1DrawKey: function 121 -/
def spec_l1DrawKey.f (s0_0 : List Int) (s0_1 : Int) : Option (Int × Int) := (spec_l1Next.f s0_0 s0_1 8).bind fun bt523 => ((spec_l1Next.f s0_0 bt523.2 8).bind fun bt525 => ((spec_l1Next.f s0_0 bt525.2 32).bind fun bt527 => ((spec_l1Pick.f s0_0 bt527.2 (([bt523.1, bt525.1, bt527.1] : List Int))).bind fun bt532 => (some (bt532.1, bt532.2)))))

/-! ### spec_l3Rec: function 89 -/
mutual
def spec_l3Rec.j0 : Nat → Bool → List Int → Int → Int → Int → Int → Bool → Int → Bool → Int → Int → Option (Int × Int × Int × Bool × Int × Bool × Int × Int × Int)
  | 0, _, _, _, _, _, _, _, _, _, _, _ => none
  | k + 1, x25, x1000, x1001, x540000, x540001, x540002, x540003, x540004, x540005, x540006, x540007 => if x25 = true then ((spec_l1Pick.f x1000 x1001 (([2, 2, 5] : List Int))).bind fun bt547 => ((spec_l1DrawKey.f x1000 bt547.2).bind fun bt549 => ((spec_l1Chance.f x1000 bt549.2 2).bind fun bt551 => ((spec_l1Chance.f x1000 bt551.2 4).bind fun bt553 => (if bt551.1 = true then ((spec_l1Next.f x1000 bt553.2 90).bind fun bt555 => (spec_l3Rec.j1 k x1000 bt555.2 bt547.1 x540001 bt549.1 bt551.1 bt555.1 (!bt553.1) x540006 x540007)) else (spec_l3Rec.j1 k x1000 bt553.2 bt547.1 x540001 bt549.1 bt551.1 x540004 (!bt553.1) x540006 x540007)))))) else (some (x540000, x540001, x540002, x540003, x540004, x540005, x540006, x540007, x1001))
def spec_l3Rec.j1 : Nat → List Int → Int → Int → Int → Int → Bool → Int → Bool → Int → Int → Option (Int × Int × Int × Bool × Int × Bool × Int × Int × Int)
  | 0, _, _, _, _, _, _, _, _, _, _ => none
  | k + 1, x1000, x1001, x540000, x540001, x540002, x540003, x540004, x540005, x540006, x540007 => if x540005 = true then ((spec_l1Next.f x1000 x1001 90).bind fun bt557 => (if x540000 = 5 then ((spec_l1Next.f x1000 bt557.2 6).bind fun bt559 => (some (x540000, x540001, x540002, x540003, x540004, x540005, bt557.1, wrap64 (1 + bt559.1), bt559.2))) else (some (x540000, x540001, x540002, x540003, x540004, x540005, bt557.1, x540007, bt557.2)))) else (if x540000 = 5 then ((spec_l1Next.f x1000 x1001 6).bind fun bt561 => (some (x540000, x540001, x540002, x540003, x540004, x540005, x540006, wrap64 (1 + bt561.1), bt561.2))) else (some (x540000, x540001, x540002, x540003, x540004, x540005, x540006, x540007, x1001)))
end
def spec_l3Rec.f (k : Nat) (s0_0 : List Int) (s0_1 : Int) : Option (Int × Int × Int × Bool × Int × Bool × Int × Int × Int) := (spec_l1Next.f s0_0 s0_1 5).bind fun bt535 => ((spec_l1Next.f s0_0 bt535.2 4).bind fun bt537 => ((spec_l1Chance.f s0_0 bt537.2 10).bind fun bt540 => (if bt540.1 = true then (some (6, 0, 0, false, 0, false, 0, 0, bt540.2)) else (if (wrap64 (1 + bt535.1)) = 2 then (spec_l3Rec.j0 k true s0_0 bt540.2 (wrap64 (1 + bt535.1)) (wrap64 (1 + bt537.1)) 0 false 0 false 0 0) else (if (wrap64 (1 + bt535.1)) = 5 then (spec_l3Rec.j0 k true s0_0 bt540.2 (wrap64 (1 + bt535.1)) (wrap64 (1 + bt537.1)) 0 false 0 false 0 0) else ((spec_l1Chance.f s0_0 bt540.2 2).bind fun bt542 => (spec_l3Rec.j0 k bt542.1 s0_0 bt542.2 (wrap64 (1 + bt535.1)) (wrap64 (1 + bt537.1)) 0 false 0 false 0 0)))))))

/-! ### spec_l3Bent: function 91 -/
def spec_l3Bent.f (k : Nat) (s0_0 : List Int) (s0_1 : Int) : Option (Int × Int × Int × Bool × Int × Bool × Int × Int × Int) := (spec_l3Rec.f k s0_0 s0_1).bind fun bt564 => ((spec_l1Next.f s0_0 bt564.2.2.2.2.2.2.2.2 16).bind fun bt574 => (if bt574.1 = 0 then ((spec_l1Next.f s0_0 bt574.2 6).bind fun bt576 => ((spec_l1Pick.f s0_0 bt576.2 (([0, 7, wrap64 (1 + bt576.1)] : List Int))).bind fun bt581 => (some (bt581.1, bt564.2.1, bt564.2.2.1, bt564.2.2.2.1, bt564.2.2.2.2.1, bt564.2.2.2.2.2.1, bt564.2.2.2.2.2.2.1, bt564.2.2.2.2.2.2.2.1, bt581.2)))) else (if bt574.1 = 1 then ((spec_l1Pick.f s0_0 bt574.2 (([0, 999, 1000, (-1)] : List Int))).bind fun bt586 => (some (bt564.1, bt586.1, bt564.2.2.1, bt564.2.2.2.1, bt564.2.2.2.2.1, bt564.2.2.2.2.2.1, bt564.2.2.2.2.2.2.1, bt564.2.2.2.2.2.2.2.1, bt586.2))) else (if bt574.1 = 2 then ((spec_l1Pick.f s0_0 bt574.2 (([(-1), 32, 3] : List Int))).bind fun bt591 => (some (bt564.1, bt564.2.1, bt591.1, bt564.2.2.2.1, bt564.2.2.2.2.1, bt564.2.2.2.2.2.1, bt564.2.2.2.2.2.2.1, bt564.2.2.2.2.2.2.2.1, bt591.2))) else (if bt574.1 = 3 then ((spec_l1Pick.f s0_0 bt574.2 (([(-1), 10000, 5] : List Int))).bind fun bt596 => (some (bt564.1, bt564.2.1, bt564.2.2.1, bt564.2.2.2.1, bt596.1, bt564.2.2.2.2.2.1, bt564.2.2.2.2.2.2.1, bt564.2.2.2.2.2.2.2.1, bt596.2))) else (if bt574.1 = 4 then ((spec_l1Pick.f s0_0 bt574.2 (([(-1), 0, 1000, 1001] : List Int))).bind fun bt601 => (some (bt564.1, bt564.2.1, bt564.2.2.1, bt564.2.2.2.1, bt564.2.2.2.2.1, bt564.2.2.2.2.2.1, bt564.2.2.2.2.2.2.1, bt601.1, bt601.2))) else (if bt574.1 = 5 then (some (bt564.1, bt564.2.1, bt564.2.2.1, bt564.2.2.2.1, bt564.2.2.2.2.1, !bt564.2.2.2.2.2.1, bt564.2.2.2.2.2.2.1, bt564.2.2.2.2.2.2.2.1, bt574.2)) else (some (bt564.1, bt564.2.1, bt564.2.2.1, bt564.2.2.2.1, bt564.2.2.2.2.1, bt564.2.2.2.2.2.1, bt564.2.2.2.2.2.2.1, bt564.2.2.2.2.2.2.2.1, bt574.2)))))))))

/-! ### spec_DrawChainBack: function 37 -/
mutual
def spec_DrawChainBack.l0 : Nat → List (S25) → Int → List Int → Int → Option ((List (S25)) × Int)
  | 0, _, _, _, _ => none
  | k + 1, x5, x6, x606000, x606001 => if x6 > 0 then ((spec_l3Rec.f k x606000 x606001).bind fun bt611 => (if bt611.2.1 > 2 then (if x5.length < 2199023255552 then (spec_DrawChainBack.l0 k (x5 ++ [(⟨bt611.1, wrap64 (bt611.2.1 - 2), bt611.2.2.1, bt611.2.2.2.1, bt611.2.2.2.2.1, bt611.2.2.2.2.2.1, bt611.2.2.2.2.2.2.1, bt611.2.2.2.2.2.2.2.1⟩ : S25)]) (wrap64 (x6 - 1)) x606000 bt611.2.2.2.2.2.2.2.2) else (none)) else (if x5.length < 2199023255552 then (spec_DrawChainBack.l0 k (x5 ++ [(⟨bt611.1, bt611.2.1, bt611.2.2.1, bt611.2.2.2.1, bt611.2.2.2.2.1, bt611.2.2.2.2.2.1, bt611.2.2.2.2.2.2.1, bt611.2.2.2.2.2.2.2.1⟩ : S25)]) (wrap64 (x6 - 1)) x606000 bt611.2.2.2.2.2.2.2.2) else (none)))) else ((spec_l1Chance.f x606000 x606001 10).bind fun bt627 => (if bt627.1 = true then ((spec_l3Bent.f k x606000 bt627.2).bind fun bt629 => (if 0 < (x5.length : Int) then (spec_DrawChainBack.j1 k (x5.set (0 : Int).toNat (⟨bt629.1, bt629.2.1, bt629.2.2.1, bt629.2.2.2.1, bt629.2.2.2.2.1, bt629.2.2.2.2.2.1, bt629.2.2.2.2.2.2.1, bt629.2.2.2.2.2.2.2.1⟩ : S25)) x606000 bt629.2.2.2.2.2.2.2.2) else (none))) else (spec_DrawChainBack.j1 k x5 x606000 bt627.2)))
def spec_DrawChainBack.j1 : Nat → List (S25) → List Int → Int → Option ((List (S25)) × Int)
  | 0, _, _, _ => none
  | k + 1, x5, x606000, x606001 => (spec_l1Chance.f x606000 x606001 40).bind fun bt639 => (if bt639.1 = true then ((spec_l1Pick.f x606000 bt639.2 (([1, 2, 1, 2, 1, 3, 0, 1000] : List Int))).bind fun bt647 => (some ((List.replicate 401 z25), bt647.1))) else ((spec_l1Pick.f x606000 bt639.2 (([1, 2, 1, 2, 1, 3, 0, 1000] : List Int))).bind fun bt652 => (some (x5, bt652.1))))
end
def spec_DrawChainBack.f (k : Nat) (l0 : List Int) : Option ((List (S25)) × Int) := (spec_l1Source.f l0).bind fun bt603 => ((spec_l1Next.f bt603.1 bt603.2 12).bind fun bt609 => (spec_DrawChainBack.l0 k (([] : List (S25))) (wrap64 (3 + bt609.1)) bt603.1 bt609.2))

/-! ### laws_lwNums: function 38 -/
def laws_lwNums.l0 : Nat → List Int → List Int → Int → Option (Bool)
  | 0, _, _, _ => none
  | k + 1, x0, x1, x5 => if x5 < (x0.length : Int) then (if 0 ≤ x5 then (if x5 < (x1.length : Int) then (if (rd x0 x5) = (rd x1 x5) then (laws_lwNums.l0 k x0 x1 (wrap64 (x5 + 1))) else (some false)) else (none)) else (none)) else (some true)
def laws_lwNums.f (k : Nat) (l0 : List Int) (l1 : List Int) : Option (Bool) := if (l0.length : Int) = (l1.length : Int) then (laws_lwNums.l0 k l0 l1 0) else (some false)

/-! ### laws_eqRecsResult: function 42 -/
def laws_eqRecsResult.f (k : Nat) (a0_0 : Int) (a0_1 : Int) (l0_2 : List (S25)) (a1_0 : Int) (a1_1 : Int) (l1_2 : List (S25)) : Option (Bool) := if a0_0 = a1_0 then (if a0_1 = a1_1 then ((laws_eqRecS.f k l0_2 l1_2).bind fun t665 => (if t665 = true then (some true) else (some false))) else (some false)) else (some false)

/-! ### laws_markRecsResult: function 45 -/
def laws_markRecsResult.f (k : Nat) (a0_0 : Int) (a0_1 : Int) (l0_2 : List (S25)) (a1 : Int) : Option (Int × (List (S25))) := (laws_markRecS.f k l0_2 a1).bind fun bt667 => (some (bt667.1, bt667.2))

/-! ### laws_heldRecS: function 93 -/
def laws_heldRecS.l0 : Nat → List (S25) → Int → Int → Option (Int)
  | 0, _, _, _ => none
  | k + 1, x0, x1, x5 => if x5 < (x0.length : Int) then (if 0 ≤ x5 then (if ((rd_T25 x0 x5).f0) = x1 then (if ((rd_T25 x0 x5).f1) = (wrap64 (x1 + 1)) then (if ((rd_T25 x0 x5).f2) = (wrap64 ((wrap64 (x1 + 1)) + 1)) then (if (((rd_T25 x0 x5).f3) != ((Int.tmod (wrap64 ((wrap64 ((wrap64 (x1 + 1)) + 1)) + 1)) 3) == 0)) = true then (some (-1)) else (if ((rd_T25 x0 x5).f4) = (wrap64 ((wrap64 ((wrap64 ((wrap64 (x1 + 1)) + 1)) + 1)) + 1)) then (if (((rd_T25 x0 x5).f5) != ((Int.tmod (wrap64 ((wrap64 ((wrap64 ((wrap64 ((wrap64 (x1 + 1)) + 1)) + 1)) + 1)) + 1)) 3) == 0)) = true then (some (-1)) else (if ((rd_T25 x0 x5).f6) = (wrap64 ((wrap64 ((wrap64 ((wrap64 ((wrap64 ((wrap64 (x1 + 1)) + 1)) + 1)) + 1)) + 1)) + 1)) then (if ((rd_T25 x0 x5).f7) = (wrap64 ((wrap64 ((wrap64 ((wrap64 ((wrap64 ((wrap64 ((wrap64 (x1 + 1)) + 1)) + 1)) + 1)) + 1)) + 1)) + 1)) then (laws_heldRecS.l0 k x0 (wrap64 ((wrap64 ((wrap64 ((wrap64 ((wrap64 ((wrap64 ((wrap64 ((wrap64 (x1 + 1)) + 1)) + 1)) + 1)) + 1)) + 1)) + 1)) + 1)) (wrap64 (x5 + 1))) else (some (-1))) else (some (-1)))) else (some (-1)))) else (some (-1))) else (some (-1))) else (some (-1))) else (none)) else (some x1)
def laws_heldRecS.f (k : Nat) (l0 : List (S25)) (a1 : Int) : Option (Int) := laws_heldRecS.l0 k l0 a1 0

/-! ### laws_heldRecsResult: function 46 -/
def laws_heldRecsResult.f (k : Nat) (a0_0 : Int) (a0_1 : Int) (l0_2 : List (S25)) (a1 : Int) : Option (Int) := (laws_heldRecS.f k l0_2 a1).bind fun t678 => (if t678 < 0 then (some (-1)) else (some t678))

/-! ### spec_l3Count: function 94 -/
def spec_l3Count.f (l0_0 : List Int) (l0_1 : List Int) : Option (Int) := some (wrap64 (Int.tdiv (wrap64 ((l0_0.length : Int) + (l0_1.length : Int))) 13))

/-! ### spec_l3Flush: function 95 -/
def spec_l3Flush.f (l0_0 : List Int) (l0_1 : List Int) : Option (List Int × List Int) := (spec_l3All.f l0_0 l0_1).bind fun t685 => (some (t685, ([] : List Int)))

/-! ### impl_Log_count: function 96 -/
def impl_Log_count.f (l0_0 : List Int) (l0_1 : List Int) : Option (Int) := some (wrap64 (Int.tdiv (wrap64 ((l0_0.length : Int) + (l0_1.length : Int))) 13))

/-! ### laws_eqLogResult: function 49 -/
def laws_eqLogResult.f (k : Nat) (a0_0 : Int) (a0_1 : Int) (l0_2 : List Int) (l0_3 : List Int) (a1_0 : Int) (a1_1 : Int) (l1_2 : List Int) (l1_3 : List Int) : Option (Bool) := if a0_0 = a1_0 then (if a0_1 = a1_1 then ((laws_eqLog.f k l0_2 l0_3 l1_2 l1_3).bind fun t695 => (if t695 = true then (some true) else (some false))) else (some false)) else (some false)

/-! ### laws_markLog: function 50 -/
def laws_markLog.f (k : Nat) (l0_0 : List Int) (l0_1 : List Int) (a1 : Int) : Option (Int × List Int × List Int) := (laws_markByteS.f k l0_0 a1).bind fun bt697 => ((laws_markByteS.f k l0_1 bt697.1).bind fun bt699 => (some (bt699.1, bt697.2, bt699.2)))

/-! ### laws_markLogResult: function 51 -/
def laws_markLogResult.f (k : Nat) (a0_0 : Int) (a0_1 : Int) (l0_2 : List Int) (l0_3 : List Int) (a1 : Int) : Option (Int × List Int × List Int) := (laws_markLog.f k l0_2 l0_3 a1).bind fun bt702 => (some (bt702.1, bt702.2.1, bt702.2.2))

/-! ### laws_heldLog: function 97 -/
def laws_heldLog.f (k : Nat) (l0_0 : List Int) (l0_1 : List Int) (a1 : Int) : Option (Int) := (laws_heldByteS.f k l0_0 a1).bind fun t706 => (if t706 < 0 then (some (-1)) else ((laws_heldByteS.f k l0_1 t706).bind fun t707 => (if t707 < 0 then (some (-1)) else (some t707))))

/-! ### laws_heldLogResult: function 52 -/
def laws_heldLogResult.f (k : Nat) (a0_0 : Int) (a0_1 : Int) (l0_2 : List Int) (l0_3 : List Int) (a1 : Int) : Option (Int) := (laws_heldLog.f k l0_2 l0_3 a1).bind fun t709 => (if t709 < 0 then (some (-1)) else (some t709))

/-! ### spec_l3Copy: function 129 -/
def spec_l3Copy.f (l0_0 : List Int) (l0_1 : List Int) : Option (List Int × List Int) := (some (([] : List Int) : List Int)).bind fun y744 => (if y744.length + l0_0.length < 140737488355328 then ((some (([] : List Int) : List Int)).bind fun y750 => (if y750.length + l0_1.length < 140737488355328 then (some ((y744 ++ l0_0), (y750 ++ l0_1))) else (none))) else (none))

/-! ### spec_l3Append: function 123 -/
def spec_l3Append.f (k : Nat) (l0_0 : List Int) (l0_1 : List Int) (a1_0 : Int) (a1_1 : Int) (a1_2 : Int) (a1_3 : Bool) (a1_4 : Int) (a1_5 : Bool) (a1_6 : Int) (a1_7 : Int) : Option (List Int × List Int × Int) := (spec_l3Copy.f l0_0 l0_1).bind fun bt759 => ((spec_l3Pack.f k a1_0 a1_1 a1_2 a1_3 a1_4 a1_5 a1_6 a1_7).bind fun t766 => (if bt759.2.length + t766.length < 140737488355328 then ((some (bt759.2 ++ t766 : List Int)).bind fun y769 => (if (wrap64 ((bt759.1.length : Int) + (y769.length : Int))) > 4000 then (some (l0_0, l0_1, 2)) else (some (bt759.1, y769, 0)))) else (none)))

/-! ### laws_szByteSS: function 101 -/
def laws_szByteSS.l0 : Nat → List (List Int) → Int → Int → Option (Int)
  | 0, _, _, _ => none
  | k + 1, x0, x1, x5 => if x5 < (x0.length : Int) then (if 0 ≤ x5 then ((laws_szByteS.f (rd_L5 x0 x5) x1).bind fun t813 => (if t813 < 0 then (some (-1)) else (laws_szByteSS.l0 k x0 t813 (wrap64 (x5 + 1))))) else (none)) else (some x1)
def laws_szByteSS.f (k : Nat) (l0 : List (List Int)) (a1 : Int) : Option (Int) := if (wrap64 (a1 - (l0.length : Int))) < 0 then (some (-1)) else (laws_szByteSS.l0 k l0 (wrap64 (a1 - (l0.length : Int))) 0)

/-! ### laws_szLoose: function 124 -/
def laws_szLoose.f (a0_0 : Int) (a0_1 : Int) (l0_2 : List Int) (a1 : Int) : Option (Int) := (laws_szByteS.f l0_2 a1).bind fun t815 => (if t815 < 0 then (some (-1)) else (some t815))

/-! ### laws_szLooseS: function 102 -/
def laws_szLooseS.l0 : Nat → List (S137) → Int → Int → Option (Int)
  | 0, _, _, _ => none
  | k + 1, x0, x1, x5 => if x5 < (x0.length : Int) then (if 0 ≤ x5 then ((laws_szLoose.f ((rd_T137 x0 x5).f0) ((rd_T137 x0 x5).f1) ((rd_T137 x0 x5).f2) x1).bind fun t817 => (if t817 < 0 then (some (-1)) else (laws_szLooseS.l0 k x0 t817 (wrap64 (x5 + 1))))) else (none)) else (some x1)
def laws_szLooseS.f (k : Nat) (l0 : List (S137)) (a1 : Int) : Option (Int) := if (wrap64 (a1 - (l0.length : Int))) < 0 then (some (-1)) else (laws_szLooseS.l0 k l0 (wrap64 (a1 - (l0.length : Int))) 0)

/-! ### laws_szDisk: function 58 -/
def laws_szDisk.f (k : Nat) (l0_0 : List (List Int)) (l0_1 : List (S137)) (a1 : Int) : Option (Int) := (laws_szByteSS.f k l0_0 a1).bind fun t819 => (if t819 < 0 then (some (-1)) else ((laws_szLooseS.f k l0_1 t819).bind fun t820 => (if t820 < 0 then (some (-1)) else (some t820))))

/-! ### spec_DiskFault: function 59 -/
mutual
def spec_DiskFault.j0 : Nat → Bool → List (List Int) → List (S117) → Option (Int)
  | 0, _, _, _ => none
  | k + 1, x14, x822000, x822001 => if x14 = true then (some 1) else (spec_DiskFault.l0 k 0 x822000 x822001)
def spec_DiskFault.l0 : Nat → Int → List (List Int) → List (S117) → Option (Int)
  | 0, _, _, _ => none
  | k + 1, x3, x822000, x822001 => if x3 < (x822000.length : Int) then (if 0 ≤ x3 then (if ((rd_L5 x822000 x3).length : Int) = 48 then (spec_DiskFault.l0 k (wrap64 (x3 + 1)) x822000 x822001) else (some 1)) else (none)) else (if (x822001.length : Int) > 60 then (some 2) else (spec_DiskFault.l1 k 0 x822000 x822001))
def spec_DiskFault.l1 : Nat → Int → List (List Int) → List (S117) → Option (Int)
  | 0, _, _, _ => none
  | k + 1, x4, x822000, x822001 => if x4 < (x822001.length : Int) then (if 0 ≤ x4 then ((spec_l1In.f ((rd_T117 x822001 x4).f0) 0 (wrap64 ((x822000.length : Int) - 1))).bind fun t824 => (if t824 = true then ((spec_l1In.f ((rd_T117 x822001 x4).f1) 0 2).bind fun t826 => (spec_DiskFault.j3 k x4 (!t826) x822000 x822001)) else (spec_DiskFault.j3 k x4 true x822000 x822001))) else (none)) else (some 0)
def spec_DiskFault.j3 : Nat → Int → Bool → List (List Int) → List (S117) → Option (Int)
  | 0, _, _, _, _ => none
  | k + 1, x4, x61, x822000, x822001 => if x61 = true then (some 3) else (if 0 ≤ x4 then (if x4 < (x822001.length : Int) then (if (((rd_T117 x822001 x4).f2).length : Int) = 16 then (spec_DiskFault.l1 k (wrap64 (x4 + 1)) x822000 x822001) else (some 1)) else (none)) else (none))
end
def spec_DiskFault.f (k : Nat) (l0_0 : List (List Int)) (l0_1 : List (S117)) : Option (Int) := if (l0_0.length : Int) < 1 then (spec_DiskFault.j0 k true l0_0 l0_1) else (spec_DiskFault.j0 k (decide ((l0_0.length : Int) > 8)) l0_0 l0_1)

/-! ### laws_toByteSS: function 103 -/
def laws_toByteSS.l0 : Nat → List (List Int) → List (List Int) → Int → Option ((List (List Int)))
  | 0, _, _, _ => none
  | k + 1, x0, x3, x4 => if x4 < (x0.length : Int) then (if 0 ≤ x4 then ((laws_toByteS.f k (rd_L5 x0 x4)).bind fun t832 => (if x4 < (x3.length : Int) then (laws_toByteSS.l0 k x0 (x3.set (x4 : Int).toNat t832) (wrap64 (x4 + 1))) else (none))) else (none)) else (some x3)
def laws_toByteSS.f (k : Nat) (l0 : List (List Int)) : Option ((List (List Int))) := if 0 ≤ (l0.length : Int) then (if ((l0.length : Int) : Int).toNat ≤ 11728124029610 then (laws_toByteSS.l0 k l0 (List.replicate ((l0.length : Int) : Int).toNat []) 0) else (none)) else (none)

/-! ### laws_toLoose: function 125 -/
def laws_toLoose.f (k : Nat) (a0_0 : Int) (a0_1 : Int) (l0_2 : List Int) : Option (Int × Int × List Int) := (laws_toByteS.f k l0_2).bind fun t839 => (some (a0_0, a0_1, t839))

/-! ### laws_toLooseS: function 104 -/
def laws_toLooseS.l0 : Nat → List (S137) → List (S117) → Int → Option ((List (S117)))
  | 0, _, _, _ => none
  | k + 1, x0, x3, x4 => if x4 < (x0.length : Int) then (if 0 ≤ x4 then ((laws_toLoose.f k ((rd_T137 x0 x4).f0) ((rd_T137 x0 x4).f1) ((rd_T137 x0 x4).f2)).bind fun bt846 => (if x4 < (x3.length : Int) then (laws_toLooseS.l0 k x0 (x3.set (x4 : Int).toNat (⟨bt846.1, bt846.2.1, bt846.2.2⟩ : S117)) (wrap64 (x4 + 1))) else (none))) else (none)) else (some x3)
def laws_toLooseS.f (k : Nat) (l0 : List (S137)) : Option ((List (S117))) := if 0 ≤ (l0.length : Int) then (if ((l0.length : Int) : Int).toNat ≤ 7036874417766 then (laws_toLooseS.l0 k l0 (List.replicate ((l0.length : Int) : Int).toNat z117) 0) else (none)) else (none)

/-! ### laws_toDisk: function 60 -/
def laws_toDisk.f (k : Nat) (l0_0 : List (List Int)) (l0_1 : List (S137)) : Option ((List (List Int)) × (List (S117))) := (laws_toByteSS.f k l0_0).bind fun t855 => ((laws_toLooseS.f k l0_1).bind fun t858 => (some (t855, t858)))

/-! ### slices_IndexFunc__byte: function 126 -/

/-! ### slices_ContainsFunc__byte: function 105 -/
def impl_DiskFault_1_any.p (x : List Int) : Bool := (x.length : Int) != 48
def impl_DiskFault_1_any.f (l0 : List (List Int)) (fv : Value) : Option (Bool) := some (l0.any impl_DiskFault_1_any.p)

/-! ### impl_Disk_hasPage: function 107 -/
def impl_Disk_hasPage.f (l0_0 : List (List Int)) (l0_1 : List (S117)) (a1 : Int) : Option (Bool) := (impl_within.f a1 0 (wrap64 ((l0_0.length : Int) - 1))).bind fun t862 => (some t862)

/-! ### impl_DiskFault: function 61 -/
mutual
def impl_DiskFault.j0 : Nat → Bool → List (List Int) → List (S117) → Option (Int)
  | 0, _, _, _ => none
  | k + 1, x5, x864000, x864001 => if x5 = true then (some 1) else (if (x864001.length : Int) > 60 then (some 2) else (impl_DiskFault.l0 k x864001 (x864001.length : Int) 0 x864000 x864001))
def impl_DiskFault.l0 : Nat → List (S117) → Int → Int → List (List Int) → List (S117) → Option (Int)
  | 0, _, _, _, _, _ => none
  | k + 1, x27, x28, x29, x864000, x864001 => if x29 < x28 then (if 0 ≤ x29 then (if x29 < (x27.length : Int) then ((impl_Disk_hasPage.f x864000 x864001 ((rd_T117 x27 x29).f0)).bind fun t867 => (if t867 = true then ((impl_within.f ((rd_T117 x27 x29).f1) 0 2).bind fun t868 => (impl_DiskFault.j2 k x27 x28 x29 (!t868) x864000 x864001 ((rd_T117 x27 x29).f0) ((rd_T117 x27 x29).f1) ((rd_T117 x27 x29).f2))) else (impl_DiskFault.j2 k x27 x28 x29 true x864000 x864001 ((rd_T117 x27 x29).f0) ((rd_T117 x27 x29).f1) ((rd_T117 x27 x29).f2)))) else (none)) else (none)) else (some 0)
def impl_DiskFault.j2 : Nat → List (S117) → Int → Int → Bool → List (List Int) → List (S117) → Int → Int → List Int → Option (Int)
  | 0, _, _, _, _, _, _, _, _, _ => none
  | k + 1, x27, x28, x29, x33, x864000, x864001, x867000, x867001, x867002 => if x33 = true then (some 3) else (if (x867002.length : Int) = 16 then (impl_DiskFault.l0 k x27 x28 (wrap64 (x29 + 1)) x864000 x864001) else (some 1))
end
def impl_DiskFault.f (k : Nat) (l0_0 : List (List Int)) (l0_1 : List (S117)) : Option (Int) := if (l0_0.length : Int) < 1 then (impl_DiskFault.j0 k true l0_0 l0_1) else (if (l0_0.length : Int) > 8 then (impl_DiskFault.j0 k true l0_0 l0_1) else ((impl_DiskFault_1_any.f l0_0 (.func (.func 106) #[] #[])).bind fun t864 => (impl_DiskFault.j0 k t864 l0_0 l0_1)))

/-! ### laws_eqByteSS: function 108 -/
def laws_eqByteSS.l0 : Nat → List (List Int) → List (List Int) → Int → Option (Bool)
  | 0, _, _, _ => none
  | k + 1, x0, x1, x5 => if x5 < (x0.length : Int) then (if 0 ≤ x5 then (if x5 < (x1.length : Int) then ((laws_eqByteS.f k (rd_L5 x0 x5) (rd_L5 x1 x5)).bind fun t871 => (if t871 = true then (laws_eqByteSS.l0 k x0 x1 (wrap64 (x5 + 1))) else (some false))) else (none)) else (none)) else (some true)
def laws_eqByteSS.f (k : Nat) (l0 : List (List Int)) (l1 : List (List Int)) : Option (Bool) := if (l0.length : Int) = (l1.length : Int) then (laws_eqByteSS.l0 k l0 l1 0) else (some false)

/-! ### laws_eqLoose: function 127 -/
def laws_eqLoose.f (k : Nat) (a0_0 : Int) (a0_1 : Int) (l0_2 : List Int) (a1_0 : Int) (a1_1 : Int) (l1_2 : List Int) : Option (Bool) := if a0_0 = a1_0 then (if a0_1 = a1_1 then ((laws_eqByteS.f k l0_2 l1_2).bind fun t874 => (if t874 = true then (some true) else (some false))) else (some false)) else (some false)

/-! ### laws_eqLooseS: function 109 -/
def laws_eqLooseS.l0 : Nat → List (S117) → List (S117) → Int → Option (Bool)
  | 0, _, _, _ => none
  | k + 1, x0, x1, x5 => if x5 < (x0.length : Int) then (if 0 ≤ x5 then (if x5 < (x1.length : Int) then ((laws_eqLoose.f k ((rd_T117 x0 x5).f0) ((rd_T117 x0 x5).f1) ((rd_T117 x0 x5).f2) ((rd_T117 x1 x5).f0) ((rd_T117 x1 x5).f1) ((rd_T117 x1 x5).f2)).bind fun t877 => (if t877 = true then (laws_eqLooseS.l0 k x0 x1 (wrap64 (x5 + 1))) else (some false))) else (none)) else (none)) else (some true)
def laws_eqLooseS.f (k : Nat) (l0 : List (S117)) (l1 : List (S117)) : Option (Bool) := if (l0.length : Int) = (l1.length : Int) then (laws_eqLooseS.l0 k l0 l1 0) else (some false)

/-! ### laws_eqDisk: function 62 -/
def laws_eqDisk.f (k : Nat) (l0_0 : List (List Int)) (l0_1 : List (S117)) (l1_0 : List (List Int)) (l1_1 : List (S117)) : Option (Bool) := (laws_eqByteSS.f k l0_0 l1_0).bind fun t880 => (if t880 = true then ((laws_eqLooseS.f k l0_1 l1_1).bind fun t881 => (if t881 = true then (some true) else (some false))) else (some false))

/-! ### laws_FnExactDiskFault: function 13 -/
def laws_FnExactDiskFault.f (k : Nat) (l0_0 : List (List Int)) (l0_1 : List (S137)) : Option (Bool) := (laws_szDisk.f k l0_0 l0_1 1048576).bind fun t883 => (if t883 < 0 then (some true) else ((laws_toDisk.f k l0_0 l0_1).bind fun bt884 => ((spec_DiskFault.f k bt884.1 bt884.2).bind fun t890 => ((laws_toDisk.f k l0_0 l0_1).bind fun bt891 => ((impl_DiskFault.f k bt891.1 bt891.2).bind fun t898 => (if t898 = t890 then ((laws_toDisk.f k l0_0 l0_1).bind fun bt899 => ((laws_eqDisk.f k bt891.1 bt891.2 bt899.1 bt899.2).bind fun t905 => (if t905 = true then (some true) else (some false)))) else (some false)))))))

end Go.Proofs.Ytpkpicahbeiocaa.P
