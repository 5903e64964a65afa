-- Printed by this session's own program over the kit's print (wip/tools/mp.py). Not trusted: Lean checks it.
import Derived.Test.YtfpjheljpmincaaP0
import Derived.Test.YtfpjheljpmincaaLb
namespace Go.Proofs.Ytfpjheljpmincaa.P
open Go.RowKit Go.Proofs.YtfpjheljpmincaaW.PrintWords Go.Proofs.YtfpjheljpmincaaW.PrintLast Go.Proofs.YtfpjheljpmincaaW.PrintMore
attribute [local go_sem] max2_int min2_int max_two min_two max_three min_three max_four min_four   -- for this text's walks alone
set_option linter.unusedVariables false
set_option linter.unusedSimpArgs false

/-! ### spec_l1In: function 9 -/
def spec_l1In.f (a0 : Int) (a1 : Int) (a2 : Int) : Option (Bool) := if a0 ≥ a1 then (some (decide (a0 ≤ a2))) else (some false)

/-! ### spec_l1Bytes: function 16 -/
def spec_l1Bytes.l0 : Nat → Int → List Int → Int → Option (List Int)
  | 0, _, _, _ => none
  | k + 1, x0, x5, x6 => if x6 ≥ 0 then (if 0 ≤ (IntKind.u64.wrap (wrap64 (8 * x6))) then (if x5.length < 140737488355328 then (spec_l1Bytes.l0 k x0 (x5 ++ [(shr .i64 x0 (IntKind.u64.wrap (wrap64 (8 * x6)))) % 256]) (wrap64 (x6 - 1))) else (none)) else (none)) else (some x5)
def spec_l1Bytes.f (k : Nat) (a0 : Int) (a1 : Int) : Option (List Int) := spec_l1Bytes.l0 k a0 (([] : List Int)) (wrap64 (a1 - 1))

/-! ### spec_SumBytes: function 17 -/
def spec_SumBytes.l0 : Nat → List Int → Int → Int → Option (Int)
  | 0, _, _, _ => none
  | k + 1, x0, x3, x4 => if x4 < (x0.length : Int) then (if 0 ≤ x4 then (spec_SumBytes.l0 k x0 (Int.tmod (wrap64 ((wrap64 ((wrap64 (x3 * 269)) + (wrap64 (rd x0 x4)))) + 1)) 65521) (wrap64 (x4 + 1))) else (none)) else (some x3)
def spec_SumBytes.f (k : Nat) (l0 : List Int) : Option (Int) := spec_SumBytes.l0 k l0 9 0

/-! ### spec_l1Pack: function 10 -/
mutual
def spec_l1Pack.l0 : Nat → List Int → Int → Int → Int → List (S43) → Option (List Int)
  | 0, _, _, _, _, _ => none
  | k + 1, x3, x4, x109000, x109001, x109002 => if x4 < (x109002.length : Int) then (if 0 ≤ x4 then (if x3.length < 140737488355328 then ((some (x3 ++ [((rd_T43 x109002 x4).f0) % 256] : List Int)).bind fun y122 => ((spec_l1Bytes.f k ((rd_T43 x109002 x4).f1) 2).bind fun t126 => (if y122.length + t126.length < 140737488355328 then (spec_l1Pack.l0 k (y122 ++ t126) (wrap64 (x4 + 1)) x109000 x109001 x109002) else (none)))) else (none)) else (none)) else (spec_l1Pack.l1 k x3)
def spec_l1Pack.l1 : Nat → List Int → Option (List Int)
  | 0, _ => none
  | k + 1, x3 => if (x3.length : Int) < 46 then (if x3.length < 140737488355328 then (spec_l1Pack.l1 k (x3 ++ [0])) else (none)) else ((spec_SumBytes.f k x3).bind fun t135 => ((spec_l1Bytes.f k t135 2).bind fun t136 => (if x3.length + t136.length < 140737488355328 then (some (x3 ++ t136)) else (none))))
end
def spec_l1Pack.f (k : Nat) (a0_0 : Int) (a0_1 : Int) (l0_2 : List (S43)) : Option (List Int) := (some (([(a0_0) % 256] : List Int) : List Int)).bind fun y109 => ((spec_l1Bytes.f k a0_1 4).bind fun t112 => (if y109.length + t112.length < 140737488355328 then ((some (y109 ++ t112 : List Int)).bind fun y115 => (if y115.length < 140737488355328 then (spec_l1Pack.l0 k (y115 ++ [((l0_2.length : Int)) % 256]) 0 a0_0 a0_1 l0_2) else (none))) else (none)))

/-! ### spec_NewDisk: function 4 -/
def spec_NewDisk.l0 : Nat → Int → Int → Int → List (List Int) → Option (Int × (List (List Int)) × (List (S54)))
  | 0, _, _, _, _ => none
  | k + 1, x0, x4, x145000, x145001 => if x4 < x0 then ((spec_l1Pack.f k x4 0 ([] : List (S43))).bind fun t145 => (if x145001.length < 5864062014805 then (spec_NewDisk.l0 k x0 (wrap64 (x4 + 1)) x145000 (x145001 ++ [t145])) else (none))) else (some (x145000, x145001, ([] : List (S54))))
def spec_NewDisk.f (k : Nat) (a0 : Int) : Option (Int × (List (List Int)) × (List (S54))) := (spec_l1In.f a0 1 8).bind fun t143 => (if t143 = true then (spec_NewDisk.l0 k a0 0 0 ([] : List (List Int))) else (some (3, ([] : List (List Int)), ([] : List (S54)))))

/-! ### impl_within: function 11 -/
def impl_within.f (a0 : Int) (a1 : Int) (a2 : Int) : Option (Bool) := if a1 ≤ a0 then (some (decide (a0 ≤ a2))) else (some false)

/-! ### impl_put: function 18 -/
def impl_put.l0 : Nat → List Int → Int → Int → Option (List Int)
  | 0, _, _, _ => none
  | k + 1, x0, x1, x7 => if x7 ≥ 0 then (if 0 ≤ (wrap64 (8 * x7)) then (if x0.length < 140737488355328 then (impl_put.l0 k (x0 ++ [(shr .i64 x1 (wrap64 (8 * x7))) % 256]) x1 (wrap64 (x7 - 1))) else (none)) else (none)) else (some x0)
def impl_put.f (k : Nat) (l0 : List Int) (a1 : Int) (a2 : Int) : Option (List Int) := impl_put.l0 k l0 a1 (wrap64 (a2 - 1))

/-! ### impl_SumBytes: function 19 -/
def impl_SumBytes.l0 : Nat → Int → List Int → Int → Int → Option (Int)
  | 0, _, _, _, _ => none
  | k + 1, x3, x6, x7, x8 => if x8 < x7 then (if 0 ≤ x8 then (if x8 < (x6.length : Int) then (impl_SumBytes.l0 k (Int.tmod (wrap64 ((wrap64 ((wrap64 (x3 * 269)) + (wrap64 (rd x6 x8)))) + 1)) 65521) x6 x7 (wrap64 (x8 + 1))) else (none)) else (none)) else (some x3)
def impl_SumBytes.f (k : Nat) (l0 : List Int) : Option (Int) := impl_SumBytes.l0 k 9 l0 (l0.length : Int) 0

/-! ### impl_Page_pack: function 12 -/
def impl_Page_pack.l0 : Nat → List Int → List (S43) → Int → Int → Option (List Int)
  | 0, _, _, _, _ => none
  | k + 1, x3, x17, x18, x19 => if x19 < x18 then (if 0 ≤ x19 then (if x19 < (x17.length : Int) then ((impl_put.f k x3 ((rd_T43 x17 x19).f0) 1).bind fun t167 => ((impl_put.f k t167 ((rd_T43 x17 x19).f1) 2).bind fun t170 => (impl_Page_pack.l0 k t170 x17 x18 (wrap64 (x19 + 1))))) else (none)) else (none)) else (if 0 ≤ (wrap64 (46 - (x3.length : Int))) then (if x3.length + (wrap64 (46 - (x3.length : Int)) : Int).toNat < 140737488355328 then ((some (x3 ++ List.replicate (wrap64 (46 - (x3.length : Int)) : Int).toNat 0 : List Int)).bind fun y173 => ((impl_SumBytes.f k y173).bind fun t176 => ((impl_put.f k y173 t176 2).bind fun t177 => (some t177)))) else (none)) else (none))
def impl_Page_pack.f (k : Nat) (a0_0 : Int) (a0_1 : Int) (l0_2 : List (S43)) : Option (List Int) := (impl_put.f k ([] : List Int) a0_0 1).bind fun t156 => ((impl_put.f k t156 a0_1 4).bind fun t159 => ((impl_put.f k t159 (l0_2.length : Int) 1).bind fun t162 => (impl_Page_pack.l0 k t162 l0_2 (l0_2.length : Int) 0)))

/-! ### impl_NewDisk: function 5 -/
def impl_NewDisk.l0 : Nat → Int → Int → List (List Int) → Option (Int × (List (List Int)) × (List (S54)))
  | 0, _, _, _ => none
  | k + 1, x10, x11, x183000 => if x11 < x10 then ((impl_Page_pack.f k x11 0 ([] : List (S43))).bind fun t183 => (if x183000.length < 5864062014805 then (impl_NewDisk.l0 k x10 (wrap64 (x11 + 1)) (x183000 ++ [t183])) else (none))) else (some (0, x183000, ([] : List (S54))))
def impl_NewDisk.f (k : Nat) (a0 : Int) : Option (Int × (List (List Int)) × (List (S54))) := (impl_within.f a0 1 8).bind fun t181 => (if t181 = true then (impl_NewDisk.l0 k a0 0 ([] : List (List Int))) else (some (3, ([] : List (List Int)), ([] : List (S54)))))

/-! ### laws_eqByteS: function 26 -/
def laws_eqByteS.l0 : Nat → List Int → List Int → Int → Option (Bool)
  | 0, _, _, _ => none
  | k + 1, x0, x1, x5 => if x5 < (x0.length : Int) then (if 0 ≤ x5 then (if x5 < (x1.length : Int) then (if (rd x0 x5) = (rd x1 x5) then (laws_eqByteS.l0 k x0 x1 (wrap64 (x5 + 1))) else (some false)) else (none)) else (none)) else (some true)
def laws_eqByteS.f (k : Nat) (l0 : List Int) (l1 : List Int) : Option (Bool) := if (l0.length : Int) = (l1.length : Int) then (laws_eqByteS.l0 k l0 l1 0) else (some false)

/-! ### laws_eqByteSS: function 20 -/
def laws_eqByteSS.l0 : Nat → List (List Int) → List (List Int) → Int → Option (Bool)
  | 0, _, _, _ => none
  | k + 1, x0, x1, x5 => if x5 < (x0.length : Int) then (if 0 ≤ x5 then (if x5 < (x1.length : Int) then ((laws_eqByteS.f k (rd_L3 x0 x5) (rd_L3 x1 x5)).bind fun t193 => (if t193 = true then (laws_eqByteSS.l0 k x0 x1 (wrap64 (x5 + 1))) else (some false))) else (none)) else (none)) else (some true)
def laws_eqByteSS.f (k : Nat) (l0 : List (List Int)) (l1 : List (List Int)) : Option (Bool) := if (l0.length : Int) = (l1.length : Int) then (laws_eqByteSS.l0 k l0 l1 0) else (some false)

/-! ### laws_eqLoose: function 27 -/
def laws_eqLoose.f (k : Nat) (a0_0 : Int) (a0_1 : Int) (l0_2 : List Int) (a1_0 : Int) (a1_1 : Int) (l1_2 : List Int) : Option (Bool) := if a0_0 = a1_0 then (if a0_1 = a1_1 then ((laws_eqByteS.f k l0_2 l1_2).bind fun t196 => (if t196 = true then (some true) else (some false))) else (some false)) else (some false)

/-! ### laws_eqLooseS: function 21 -/
def laws_eqLooseS.l0 : Nat → List (S54) → List (S54) → Int → Option (Bool)
  | 0, _, _, _ => none
  | k + 1, x0, x1, x5 => if x5 < (x0.length : Int) then (if 0 ≤ x5 then (if x5 < (x1.length : Int) then ((laws_eqLoose.f k ((rd_T54 x0 x5).f0) ((rd_T54 x0 x5).f1) ((rd_T54 x0 x5).f2) ((rd_T54 x1 x5).f0) ((rd_T54 x1 x5).f1) ((rd_T54 x1 x5).f2)).bind fun t199 => (if t199 = true then (laws_eqLooseS.l0 k x0 x1 (wrap64 (x5 + 1))) else (some false))) else (none)) else (none)) else (some true)
def laws_eqLooseS.f (k : Nat) (l0 : List (S54)) (l1 : List (S54)) : Option (Bool) := if (l0.length : Int) = (l1.length : Int) then (laws_eqLooseS.l0 k l0 l1 0) else (some false)

/-! ### laws_eqDisk: function 13 -/
def laws_eqDisk.f (k : Nat) (l0_0 : List (List Int)) (l0_1 : List (S54)) (l1_0 : List (List Int)) (l1_1 : List (S54)) : Option (Bool) := (laws_eqByteSS.f k l0_0 l1_0).bind fun t202 => (if t202 = true then ((laws_eqLooseS.f k l0_1 l1_1).bind fun t203 => (if t203 = true then (some true) else (some false))) else (some false))

/-! ### laws_eqDiskResult: function 6 -/
def laws_eqDiskResult.f (k : Nat) (a0_0 : Int) (l0_1 : List (List Int)) (l0_2 : List (S54)) (a1_0 : Int) (l1_1 : List (List Int)) (l1_2 : List (S54)) : Option (Bool) := if a0_0 = a1_0 then ((laws_eqDisk.f k l0_1 l0_2 l1_1 l1_2).bind fun t206 => (if t206 = true then (some true) else (some false))) else (some false)

/-! ### laws_markByteS: function 28 -/
def laws_markByteS.l0 : Nat → List Int → Int → Int → Option (Int × List Int)
  | 0, _, _, _ => none
  | k + 1, x0, x1, x5 => if x5 < (x0.length : Int) then (if 0 ≤ x5 then (laws_markByteS.l0 k (x0.set (x5 : Int).toNat ((x1) % 256)) (wrap64 (x1 + 1)) (wrap64 (x5 + 1))) else (none)) else (some (x1, x0))
def laws_markByteS.f (k : Nat) (l0 : List Int) (a1 : Int) : Option (Int × List Int) := laws_markByteS.l0 k l0 a1 0

/-! ### laws_markDiskResult: function 7 -/
-- NEEDS Derived.Test.YtfpjheljpmincaaLb
def laws_markByteSS.l0 : Nat → List (List Int) → Int → Int → Option (Int × List (List Int))
  | 0, _, _, _ => none
  | k + 1, x0, x1, x5 => if x5 < (x0.length : Int) then (if 0 ≤ x5 then ((laws_markByteS.f k (rd_L3 x0 x5) x1).bind fun t => laws_markByteSS.l0 k (x0.set (x5 : Int).toNat t.2) t.1 (wrap64 (x5 + 1))) else none) else some (x1, x0)
def laws_markByteSS.f (k : Nat) (l0 : List (List Int)) (a1 : Int) : Option (Int × List (List Int)) := laws_markByteSS.l0 k l0 a1 0
def laws_markDiskResult.f (k : Nat) (a0_0 : Int) (l0_1 : List (List Int)) (l0_2 : List S54) (a1 : Int) : Option (Int × List (List Int) × List S54) := if l0_2 = [] then (laws_markByteSS.f k l0_1 a1).bind fun m => some (m.1, m.2, []) else none


/-! ### laws_heldByteS: function 29 -/
def laws_heldByteS.l0 : Nat → List Int → Int → Int → Option (Int)
  | 0, _, _, _ => none
  | k + 1, x0, x1, x5 => if x5 < (x0.length : Int) then (if 0 ≤ x5 then (if (rd x0 x5) = ((x1) % 256) then (laws_heldByteS.l0 k x0 (wrap64 (x1 + 1)) (wrap64 (x5 + 1))) else (some (-1))) else (none)) else (some x1)
def laws_heldByteS.f (k : Nat) (l0 : List Int) (a1 : Int) : Option (Int) := laws_heldByteS.l0 k l0 a1 0

/-! ### laws_heldByteSS: function 24 -/
def laws_heldByteSS.l0 : Nat → List (List Int) → Int → Int → Option (Int)
  | 0, _, _, _ => none
  | k + 1, x0, x1, x5 => if x5 < (x0.length : Int) then (if 0 ≤ x5 then ((laws_heldByteS.f k (rd_L3 x0 x5) x1).bind fun t210 => (if t210 < 0 then (some (-1)) else (laws_heldByteSS.l0 k x0 t210 (wrap64 (x5 + 1))))) else (none)) else (some x1)
def laws_heldByteSS.f (k : Nat) (l0 : List (List Int)) (a1 : Int) : Option (Int) := laws_heldByteSS.l0 k l0 a1 0

/-! ### laws_heldLooseS: function 25 -/
def laws_heldLooseS.l0 : Nat → List (S54) → Int → Int → Option (Int)
  | 0, _, _, _ => none
  | k + 1, x0, x1, x5 => if x5 < (x0.length : Int) then (if 0 ≤ x5 then (if ((rd_T54 x0 x5).f0) = x1 then (if ((rd_T54 x0 x5).f1) = (wrap64 (x1 + 1)) then ((laws_heldByteS.f k ((rd_T54 x0 x5).f2) (wrap64 ((wrap64 (x1 + 1)) + 1))).bind fun t214 => (if t214 < 0 then (some (-1)) else (laws_heldLooseS.l0 k x0 t214 (wrap64 (x5 + 1))))) else (some (-1))) else (some (-1))) else (none)) else (some x1)
def laws_heldLooseS.f (k : Nat) (l0 : List (S54)) (a1 : Int) : Option (Int) := laws_heldLooseS.l0 k l0 a1 0

/-! ### laws_heldDisk: function 15 -/
def laws_heldDisk.f (k : Nat) (l0_0 : List (List Int)) (l0_1 : List (S54)) (a1 : Int) : Option (Int) := (laws_heldByteSS.f k l0_0 a1).bind fun t216 => (if t216 < 0 then (some (-1)) else ((laws_heldLooseS.f k l0_1 t216).bind fun t217 => (if t217 < 0 then (some (-1)) else (some t217))))

/-! ### laws_heldDiskResult: function 8 -/
def laws_heldDiskResult.f (k : Nat) (a0_0 : Int) (l0_1 : List (List Int)) (l0_2 : List (S54)) (a1 : Int) : Option (Int) := (laws_heldDisk.f k l0_1 l0_2 a1).bind fun t219 => (if t219 < 0 then (some (-1)) else (some t219))

/-! ### laws_FnExactNewDisk: function 3 -/
-- NEEDS Derived.Test.YtfpjheljpmincaaLb
/-- The law, told once for all that is computed twice. -/
def laws_FnExactNewDisk.f (k : Nat) (a0 : Int) : Option Bool :=
  (spec_NewDisk.f k a0).bind fun s => (impl_NewDisk.f k a0).bind fun g =>
  (laws_eqDiskResult.f k g.1 g.2.1 g.2.2 s.1 s.2.1 s.2.2).bind fun q1 => if q1 = true then
    (laws_markDiskResult.f k g.1 g.2.1 g.2.2 1).bind fun n => (laws_heldDiskResult.f k g.1 n.2.1 g.2.2 1).bind fun q3 => if q3 < 0 then some false else if q3 = n.1 then some true else some false
  else some false


end Go.Proofs.Ytfpjheljpmincaa.P
