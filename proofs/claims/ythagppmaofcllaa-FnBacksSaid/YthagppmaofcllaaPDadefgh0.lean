-- Printed by this session's own program over the kit's print (wip/tools/mp.py). Not trusted: Lean checks it.
import Derived.Test.YthagppmaofcllaaP0
import Derived.Test.YthagppmaofcllaaPDall0
namespace Go.Proofs.Ythagppmaofcllaa.P
open Go.RowKit Go.Proofs.YthagppmaofcllaaW.PrintWords Go.Proofs.YthagppmaofcllaaW.PrintLast Go.Proofs.YthagppmaofcllaaW.PrintMore
attribute [local go_sem] max2_int min2_int max_two min_two max_three min_three max_four min_four   -- for this text's walks alone
set_option linter.unusedVariables false
set_option linter.unusedSimpArgs false

/-! ### spec_l1Take: function 79 -/
def spec_l1Take.l0 : Nat → List Int → Int → Int → Int → Int → Option (Int)
  | 0, _, _, _, _, _ => none
  | k + 1, x0, x1, x2, x7, x8 => if x8 < x2 then (if 0 ≤ (wrap64 (x1 + x8)) then (if (wrap64 (x1 + x8)) < (x0.length : Int) then (spec_l1Take.l0 k x0 x1 x2 (wrap64 ((wrap64 (x7 * 256)) + (wrap64 (rd x0 (wrap64 (x1 + x8)))))) (wrap64 (x8 + 1))) else (none)) else (none)) else (some x7)
def spec_l1Take.f (k : Nat) (l0 : List Int) (a1 : Int) (a2 : Int) : Option (Int) := spec_l1Take.l0 k l0 a1 a2 0 0

/-! ### spec_l1Bytes: function 94 -/
def spec_l1Bytes.l0 : Nat → Int → List Int → Int → Option (List Int)
  | 0, _, _, _ => none
  | k + 1, x0, x5, x6 => if x6 ≥ 0 then (if 0 ≤ (IntKind.u64.wrap (wrap64 (8 * x6))) then (if x5.length < 140737488355328 then (spec_l1Bytes.l0 k x0 (x5 ++ [(shr .i64 x0 (IntKind.u64.wrap (wrap64 (8 * x6)))) % 256]) (wrap64 (x6 - 1))) else (none)) else (none)) else (some x5)
def spec_l1Bytes.f (k : Nat) (a0 : Int) (a1 : Int) : Option (List Int) := spec_l1Bytes.l0 k a0 (([] : List Int)) (wrap64 (a1 - 1))

/-! ### spec_SumBytes: function 95 -/
def spec_SumBytes.l0 : Nat → List Int → Int → Int → Option (Int)
  | 0, _, _, _ => none
  | k + 1, x0, x3, x4 => if x4 < (x0.length : Int) then (if 0 ≤ x4 then (spec_SumBytes.l0 k x0 (Int.tmod (wrap64 ((wrap64 ((wrap64 (x3 * 269)) + (wrap64 (rd x0 x4)))) + 1)) 65521) (wrap64 (x4 + 1))) else (none)) else (some x3)
def spec_SumBytes.f (k : Nat) (l0 : List Int) : Option (Int) := spec_SumBytes.l0 k l0 9 0

/-! ### spec_l3Pack: function 80 -/
mutual
def spec_l3Pack.j0 : Nat → Int → Int → Int → Int → Bool → Int → Bool → Int → Int → Option (List Int)
  | 0, _, _, _, _, _, _, _, _, _ => none
  | k + 1, x3, x137000, x137001, x137002, x137003, x137004, x137005, x137006, x137007 => if x137005 = true then (spec_l3Pack.j1 k ((x3 + 2) % 256) x137000 x137001 x137002 x137003 x137004 x137005 x137006 x137007) else (spec_l3Pack.j1 k x3 x137000 x137001 x137002 x137003 x137004 x137005 x137006 x137007)
def spec_l3Pack.j1 : Nat → Int → Int → Int → Int → Bool → Int → Bool → Int → Int → Option (List Int)
  | 0, _, _, _, _, _, _, _, _, _ => none
  | k + 1, x3, x137000, x137001, x137002, x137003, x137004, x137005, x137006, x137007 => (some (([(x137000) % 256] : List Int) : List Int)).bind fun y137 => ((spec_l1Bytes.f k x137001 2).bind fun t140 => (if y137.length + t140.length < 140737488355328 then ((some (y137 ++ t140 : List Int)).bind fun y143 => ((some (([(x137002) % 256, x3] : List Int) : List Int)).bind fun y146 => (if y143.length + y146.length < 140737488355328 then ((some (y143 ++ y146 : List Int)).bind fun y149 => ((spec_l1Bytes.f k x137004 2).bind fun t152 => (if y149.length + t152.length < 140737488355328 then ((some (y149 ++ t152 : List Int)).bind fun y155 => ((spec_l1Bytes.f k x137006 2).bind fun t158 => (if y155.length + t158.length < 140737488355328 then ((some (y155 ++ t158 : List Int)).bind fun y161 => ((spec_l1Bytes.f k x137007 2).bind fun t164 => (if y161.length + t164.length < 140737488355328 then ((some (y161 ++ t164 : List Int)).bind fun y167 => ((spec_SumBytes.f k y167).bind fun t170 => ((spec_l1Bytes.f k t170 2).bind fun t171 => (if y167.length + t171.length < 140737488355328 then (some (y167 ++ t171)) else (none))))) else (none)))) else (none)))) else (none)))) else (none)))) else (none)))
end
def spec_l3Pack.f (k : Nat) (a0_0 : Int) (a0_1 : Int) (a0_2 : Int) (a0_3 : Bool) (a0_4 : Int) (a0_5 : Bool) (a0_6 : Int) (a0_7 : Int) : Option (List Int) := if a0_3 = true then (spec_l3Pack.j0 k 1 a0_0 a0_1 a0_2 a0_3 a0_4 a0_5 a0_6 a0_7) else (spec_l3Pack.j0 k 0 a0_0 a0_1 a0_2 a0_3 a0_4 a0_5 a0_6 a0_7)

/-! ### spec_l3Recs: function 49 -/
def spec_l3Recs.l0 : Nat → List Int → List (S48) → Int → Option ((List (S48)) × Int)
  | 0, _, _, _ => none
  | k + 1, x0, x4, x5 => if (wrap64 (x5 + 13)) ≤ (x0.length : Int) then (if 0 ≤ x5 then (if x5 ≤ (wrap64 (x5 + 13)) then (if 0 < (((x0.take ((wrap64 (x5 + 13)) : Int).toNat).drop (x5 : Int).toNat).length : Int) then ((spec_l1Take.f k ((x0.take ((wrap64 (x5 + 13)) : Int).toNat).drop (x5 : Int).toNat) 1 2).bind fun t182 => (if 3 < (((x0.take ((wrap64 (x5 + 13)) : Int).toNat).drop (x5 : Int).toNat).length : Int) then (if 4 < (((x0.take ((wrap64 (x5 + 13)) : Int).toNat).drop (x5 : Int).toNat).length : Int) then ((spec_l1Take.f k ((x0.take ((wrap64 (x5 + 13)) : Int).toNat).drop (x5 : Int).toNat) 5 2).bind fun t185 => ((spec_l1Take.f k ((x0.take ((wrap64 (x5 + 13)) : Int).toNat).drop (x5 : Int).toNat) 7 2).bind fun t187 => ((spec_l1Take.f k ((x0.take ((wrap64 (x5 + 13)) : Int).toNat).drop (x5 : Int).toNat) 9 2).bind fun t188 => ((spec_RecFault.f k (wrap64 (rd ((x0.take ((wrap64 (x5 + 13)) : Int).toNat).drop (x5 : Int).toNat) 0)) t182 (wrap64 (rd ((x0.take ((wrap64 (x5 + 13)) : Int).toNat).drop (x5 : Int).toNat) 3)) ((Int.tmod (rd ((x0.take ((wrap64 (x5 + 13)) : Int).toNat).drop (x5 : Int).toNat) 4) 2) == 1) t185 ((((Int.tdiv (rd ((x0.take ((wrap64 (x5 + 13)) : Int).toNat).drop (x5 : Int).toNat) 4) 2) % 256) % 2) == 1) t187 t188).bind fun t190 => (if t190 = 0 then ((spec_l3Pack.f k (wrap64 (rd ((x0.take ((wrap64 (x5 + 13)) : Int).toNat).drop (x5 : Int).toNat) 0)) t182 (wrap64 (rd ((x0.take ((wrap64 (x5 + 13)) : Int).toNat).drop (x5 : Int).toNat) 3)) ((Int.tmod (rd ((x0.take ((wrap64 (x5 + 13)) : Int).toNat).drop (x5 : Int).toNat) 4) 2) == 1) t185 ((((Int.tdiv (rd ((x0.take ((wrap64 (x5 + 13)) : Int).toNat).drop (x5 : Int).toNat) 4) 2) % 256) % 2) == 1) t187 t188).bind fun t191 => (if (strOfNums t191).toList = (strOfNums ((x0.take ((wrap64 (x5 + 13)) : Int).toNat).drop (x5 : Int).toNat)).toList then (if x4.length < 2199023255552 then (spec_l3Recs.l0 k x0 (x4 ++ [(⟨wrap64 (rd ((x0.take ((wrap64 (x5 + 13)) : Int).toNat).drop (x5 : Int).toNat) 0), t182, wrap64 (rd ((x0.take ((wrap64 (x5 + 13)) : Int).toNat).drop (x5 : Int).toNat) 3), ((Int.tmod (rd ((x0.take ((wrap64 (x5 + 13)) : Int).toNat).drop (x5 : Int).toNat) 4) 2) == 1), t185, ((((Int.tdiv (rd ((x0.take ((wrap64 (x5 + 13)) : Int).toNat).drop (x5 : Int).toNat) 4) 2) % 256) % 2) == 1), t187, t188⟩ : S48)]) (wrap64 (x5 + 13))) else (none)) else (some (x4, x5)))) else (some (x4, x5))))))) else (none)) else (none))) else (none)) else (none)) else (none)) else (some (x4, x5))
def spec_l3Recs.f (k : Nat) (l0 : List Int) : Option ((List (S48)) × Int) := spec_l3Recs.l0 k l0 (([] : List (S48))) 0

/-! ### impl_take: function 81 -/
def impl_take.l0 : Nat → Int → List Int → Int → Int → Option (Int)
  | 0, _, _, _, _ => none
  | k + 1, x3, x6, x7, x8 => if x8 < x7 then (if 0 ≤ x8 then (if x8 < (x6.length : Int) then (impl_take.l0 k (Go.bits .or .i64 (wrap64 (x3 * 256)) (wrap64 (rd x6 x8))) x6 x7 (wrap64 (x8 + 1))) else (none)) else (none)) else (some x3)
def impl_take.f (k : Nat) (l0 : List Int) : Option (Int) := impl_take.l0 k 0 l0 (l0.length : Int) 0

/-! ### slices_Equal_byte: function 83 -/
def slices_Equal_byte.l0 : Nat → List Int → List Int → Int → Int → Option (Bool)
  | 0, _, _, _, _ => none
  | k + 1, x0, x1, x12, x13 => if x13 < x12 then (if 0 ≤ x13 then (if x13 < (x0.length : Int) then (if x13 < (x1.length : Int) then (if (rd x0 x13) = (rd x1 x13) then (slices_Equal_byte.l0 k x0 x1 x12 (wrap64 (x13 + 1))) else (some false)) else (none)) else (none)) else (none)) else (some true)
def slices_Equal_byte.f (k : Nat) (l0 : List Int) (l1 : List Int) : Option (Bool) := if (l0.length : Int) = (l1.length : Int) then (slices_Equal_byte.l0 k l0 l1 (l0.length : Int) 0) else (some false)

/-! ### impl_put: function 99 -/
def impl_put.l0 : Nat → List Int → Int → Int → Option (List Int)
  | 0, _, _, _ => none
  | k + 1, x0, x1, x7 => if x7 ≥ 0 then (if 0 ≤ (wrap64 (8 * x7)) then (if x0.length < 140737488355328 then (impl_put.l0 k (x0 ++ [(shr .i64 x1 (wrap64 (8 * x7))) % 256]) x1 (wrap64 (x7 - 1))) else (none)) else (none)) else (some x0)
def impl_put.f (k : Nat) (l0 : List Int) (a1 : Int) (a2 : Int) : Option (List Int) := impl_put.l0 k l0 a1 (wrap64 (a2 - 1))

/-! ### impl_flag: function 100 -/
def impl_flag.f (a0 : Bool) (a1 : Int) : Option (Int) := if a0 = true then (some a1) else (some 0)

/-! ### impl_SumBytes: function 101 -/
def impl_SumBytes.l0 : Nat → Int → List Int → Int → Int → Option (Int)
  | 0, _, _, _, _ => none
  | k + 1, x3, x6, x7, x8 => if x8 < x7 then (if 0 ≤ x8 then (if x8 < (x6.length : Int) then (impl_SumBytes.l0 k (Int.tmod (wrap64 ((wrap64 ((wrap64 (x3 * 269)) + (wrap64 (rd x6 x8)))) + 1)) 65521) x6 x7 (wrap64 (x8 + 1))) else (none)) else (none)) else (some x3)
def impl_SumBytes.f (k : Nat) (l0 : List Int) : Option (Int) := impl_SumBytes.l0 k 9 l0 (l0.length : Int) 0

/-! ### impl_Rec_pack: function 84 -/
def impl_Rec_pack.f (k : Nat) (a0_0 : Int) (a0_1 : Int) (a0_2 : Int) (a0_3 : Bool) (a0_4 : Int) (a0_5 : Bool) (a0_6 : Int) (a0_7 : Int) : Option (List Int) := (impl_put.f k ([] : List Int) a0_0 1).bind fun t254 => ((impl_put.f k t254 a0_1 2).bind fun t257 => ((impl_put.f k t257 a0_2 1).bind fun t260 => ((impl_flag.f a0_3 1).bind fun t263 => ((impl_flag.f a0_5 2).bind fun t264 => ((impl_put.f k t260 (wrap64 (t263 + t264)) 1).bind fun t265 => ((impl_put.f k t265 a0_4 2).bind fun t268 => ((impl_put.f k t268 a0_6 2).bind fun t271 => ((impl_put.f k t271 a0_7 2).bind fun t274 => ((impl_SumBytes.f k t274).bind fun t277 => ((impl_put.f k t274 t277 2).bind fun t278 => (some t278)))))))))))

/-! ### impl_unpack: function 51 -/
def impl_unpack.l0 : Nat → List Int → List (S48) → Option ((List (S48)))
  | 0, _, _ => none
  | k + 1, x0, x3 => if (x0.length : Int) ≥ 13 then (if 13 ≤ (x0.length : Int) then ((some (x0.take 13 : List Int)).bind fun y284 => (if 1 ≤ (y284.length : Int) then ((impl_take.f k (y284.take 1)).bind fun t294 => (if 3 ≤ (y284.length : Int) then ((impl_take.f k ((y284.take 3).drop 1)).bind fun t300 => (if 4 ≤ (y284.length : Int) then ((impl_take.f k ((y284.take 4).drop 3)).bind fun t306 => (if 4 < (y284.length : Int) then (if 7 ≤ (y284.length : Int) then ((impl_take.f k ((y284.take 7).drop 5)).bind fun t314 => (if 9 ≤ (y284.length : Int) then ((impl_take.f k ((y284.take 9).drop 7)).bind fun t320 => (if 11 ≤ (y284.length : Int) then ((impl_take.f k ((y284.take 11).drop 9)).bind fun t326 => ((impl_RecFault.f k t294 t300 t306 ((Go.bits .and .u8 (rd y284 4) 1) == 1) t314 ((Go.bits .and .u8 (rd y284 4) 2) == 2) t320 t326).bind fun t328 => (if t328 = 0 then ((impl_Rec_pack.f k t294 t300 t306 ((Go.bits .and .u8 (rd y284 4) 1) == 1) t314 ((Go.bits .and .u8 (rd y284 4) 2) == 2) t320 t326).bind fun t329 => ((slices_Equal_byte.f k t329 y284).bind fun t332 => (if t332 = true then (if x3.length < 2199023255552 then (impl_unpack.l0 k (x0.drop 13) (x3 ++ [(⟨t294, t300, t306, ((Go.bits .and .u8 (rd y284 4) 1) == 1), t314, ((Go.bits .and .u8 (rd y284 4) 2) == 2), t320, t326⟩ : S48)])) else (none)) else (some x3)))) else (some x3)))) else (none))) else (none))) else (none)) else (none))) else (none))) else (none))) else (none))) else (none)) else (some x3)
def impl_unpack.f (k : Nat) (l0 : List Int) : Option ((List (S48))) := impl_unpack.l0 k l0 (([] : List (S48)))

end Go.Proofs.Ythagppmaofcllaa.P
