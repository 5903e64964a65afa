-- Printed by this session's own program over the kit's print (wip/tools/mp.py). Not trusted: Lean checks it.
import Derived.Test.YtcpdnoogpfkkdaaP0
namespace Go.Proofs.Ytcpdnoogpfkkdaa.P
open Go.RowKit Go.Proofs.YtcpdnoogpfkkdaaW.PrintWords Go.Proofs.YtcpdnoogpfkkdaaW.PrintLast Go.Proofs.YtcpdnoogpfkkdaaW.PrintMore
attribute [local go_sem] max2_int min2_int max_two min_two max_three min_three max_four min_four   -- for this text's walks alone
set_option linter.unusedVariables false
set_option linter.unusedSimpArgs false

/-! ### laws_szPairS: function 5 -/
def laws_szPairS.f (l0 : List (S41)) (a1 : Int) : Option (Int) := if (wrap64 (a1 - (l0.length : Int))) < 0 then (some (-1)) else (some (wrap64 (a1 - (l0.length : Int))))

/-! ### spec_l1In: function 29 -/
def spec_l1In.f (a0 : Int) (a1 : Int) (a2 : Int) : Option (Bool) := if a0 ≥ a1 then (some (decide (a0 ≤ a2))) else (some false)

/-! ### spec_l1Value: function 16 -/
def spec_l1Value.f (a0 : Int) : Option (Bool) := (spec_l1In.f a0 0 9999).bind fun t101 => (some t101)

/-! ### spec_l1Key: function 17 -/
def spec_l1Key.f (a0 : Int) : Option (Bool) := (spec_l1In.f a0 0 31).bind fun t102 => (some t102)

/-! ### spec_l8Behind: function 18 -/
def spec_l8Behind.f (a0_0 : Int) (a0_1 : Int) (a1_0 : Int) (a1_1 : Int) : Option (Bool) := if a0_0 = a1_0 then (some (decide (a0_1 < a1_1))) else (some (decide (a0_0 < a1_0)))

/-! ### spec_PairsFault: function 6 -/
mutual
def spec_PairsFault.l0 : Nat → List (S38) → Int → Option (Int)
  | 0, _, _ => none
  | k + 1, x0, x3 => if x3 < (x0.length : Int) then (if 0 ≤ x3 then ((spec_l1Value.f ((rd_T38 x0 x3).f0)).bind fun t106 => (if t106 = true then ((spec_l1Key.f ((rd_T38 x0 x3).f1)).bind fun t108 => (spec_PairsFault.j1 k x0 x3 (!t108))) else (spec_PairsFault.j1 k x0 x3 true))) else (none)) else (some 0)
def spec_PairsFault.j1 : Nat → List (S38) → Int → Bool → Option (Int)
  | 0, _, _, _ => none
  | k + 1, x0, x3, x28 => if x28 = true then (some 3) else (if x3 > 0 then (if 0 ≤ (wrap64 (x3 - 1)) then (if (wrap64 (x3 - 1)) < (x0.length : Int) then (if 0 ≤ x3 then (if x3 < (x0.length : Int) then ((spec_l8Behind.f ((rd_T38 x0 (wrap64 (x3 - 1))).f0) ((rd_T38 x0 (wrap64 (x3 - 1))).f1) ((rd_T38 x0 x3).f0) ((rd_T38 x0 x3).f1)).bind fun t111 => (if t111 = true then (spec_PairsFault.l0 k x0 (wrap64 (x3 + 1))) else (some 1))) else (none)) else (none)) else (none)) else (none)) else (spec_PairsFault.l0 k x0 (wrap64 (x3 + 1))))
end
def spec_PairsFault.f (k : Nat) (l0 : List (S38)) : Option (Int) := if (l0.length : Int) > 400 then (some 2) else (spec_PairsFault.l0 k l0 0)

/-! ### laws_toPair: function 19 -/
def laws_toPair.f (a0_0 : Int) (a0_1 : Int) : Option (Int × Int) := some (a0_0, a0_1)

/-! ### laws_toPairS: function 7 -/
def laws_toPairS.l0 : Nat → List (S41) → List (S38) → Int → Option ((List (S38)))
  | 0, _, _, _ => none
  | k + 1, x0, x3, x4 => if x4 < (x0.length : Int) then (if 0 ≤ x4 then ((laws_toPair.f ((rd_T41 x0 x4).f0) ((rd_T41 x0 x4).f1)).bind fun bt119 => (if x4 < (x3.length : Int) then (laws_toPairS.l0 k x0 (x3.set (x4 : Int).toNat (⟨bt119.1, bt119.2⟩ : S38)) (wrap64 (x4 + 1))) else (none))) else (none)) else (some x3)
def laws_toPairS.f (k : Nat) (l0 : List (S41)) : Option ((List (S38))) := if 0 ≤ (l0.length : Int) then (if ((l0.length : Int) : Int).toNat ≤ 17592186044416 then (laws_toPairS.l0 k l0 (List.replicate ((l0.length : Int) : Int).toNat z38) 0) else (none)) else (none)

/-! ### impl_within: function 30 -/
def impl_within.f (a0 : Int) (a1 : Int) (a2 : Int) : Option (Bool) := if a1 ≤ a0 then (some (decide (a0 ≤ a2))) else (some false)

/-! ### impl_isValue: function 20 -/
def impl_isValue.f (a0 : Int) : Option (Bool) := (impl_within.f a0 0 9999).bind fun t122 => (some t122)

/-! ### impl_isKey: function 21 -/
def impl_isKey.f (a0 : Int) : Option (Bool) := (impl_within.f a0 0 31).bind fun t123 => (some t123)

/-! ### cmp_Or_int: function 31 -/
def cmp_Or_int.l0 : Nat → Int → List Int → Int → Int → Option (Int)
  | 0, _, _, _, _ => none
  | k + 1, x3, x6, x7, x8 => if x8 < x7 then (if 0 ≤ x8 then (if x8 < (x6.length : Int) then (if (rd x6 x8) = x3 then (cmp_Or_int.l0 k x3 x6 x7 (wrap64 (x8 + 1))) else (some (rd x6 x8))) else (none)) else (none)) else (some x3)
def cmp_Or_int.f (k : Nat) (l0 : List Int) : Option (Int) := cmp_Or_int.l0 k 0 l0 (l0.length : Int) 0

/-! ### cmp_isNaN_int64: function 35 -/
def cmp_isNaN_int64.f (a0 : Int) : Option (Bool) := some (a0 != a0)

/-! ### cmp_Compare_int64: function 32 -/
def cmp_Compare_int64.f (a0 : Int) (a1 : Int) : Option (Int) := (cmp_isNaN_int64.f a0).bind fun t125 => ((cmp_isNaN_int64.f a1).bind fun t126 => (if t125 = true then (if t126 = true then (some 0) else (some (-1))) else (if t126 = true then (some 1) else (if a0 < a1 then (some (-1)) else (if a0 > a1 then (some 1) else (some 0))))))

/-! ### impl_comparePairs: function 22 -/
def impl_comparePairs.f (k : Nat) (a0_0 : Int) (a0_1 : Int) (a1_0 : Int) (a1_1 : Int) : Option (Int) := (cmp_Compare_int64.f a0_0 a1_0).bind fun t129 => ((cmp_Compare_int64.f a0_1 a1_1).bind fun t130 => ((cmp_Or_int.f k (([t129, t130] : List Int))).bind fun t134 => (some t134)))

/-! ### impl_PairsFault: function 8 -/
mutual
def impl_PairsFault.l0 : Nat → List (S38) → List (S38) → Int → Int → Option (Int)
  | 0, _, _, _, _ => none
  | k + 1, x0, x8, x9, x10 => if x10 < x9 then (if 0 ≤ x10 then (if x10 < (x8.length : Int) then ((impl_isValue.f ((rd_T38 x8 x10).f0)).bind fun t137 => (if t137 = true then ((impl_isKey.f ((rd_T38 x8 x10).f1)).bind fun t138 => (impl_PairsFault.j1 k x0 x10 x8 x9 x10 (!t138) ((rd_T38 x8 x10).f0) ((rd_T38 x8 x10).f1))) else (impl_PairsFault.j1 k x0 x10 x8 x9 x10 true ((rd_T38 x8 x10).f0) ((rd_T38 x8 x10).f1)))) else (none)) else (none)) else (some 0)
def impl_PairsFault.j1 : Nat → List (S38) → Int → List (S38) → Int → Int → Bool → Int → Int → Option (Int)
  | 0, _, _, _, _, _, _, _, _ => none
  | k + 1, x0, x3, x8, x9, x10, x15, x137000, x137001 => if x15 = true then (some 3) else (if x3 > 0 then (if 0 ≤ (wrap64 (x3 - 1)) then (if (wrap64 (x3 - 1)) < (x0.length : Int) then ((impl_comparePairs.f k x137000 x137001 ((rd_T38 x0 (wrap64 (x3 - 1))).f0) ((rd_T38 x0 (wrap64 (x3 - 1))).f1)).bind fun t140 => (if t140 ≤ 0 then (some 1) else (impl_PairsFault.l0 k x0 x8 x9 (wrap64 (x10 + 1))))) else (none)) else (none)) else (impl_PairsFault.l0 k x0 x8 x9 (wrap64 (x10 + 1))))
end
def impl_PairsFault.f (k : Nat) (l0 : List (S38)) : Option (Int) := if (l0.length : Int) > 400 then (some 2) else (impl_PairsFault.l0 k l0 l0 (l0.length : Int) 0)

/-! ### laws_eqPair: function 23 -/
def laws_eqPair.f (a0_0 : Int) (a0_1 : Int) (a1_0 : Int) (a1_1 : Int) : Option (Bool) := if a0_0 = a1_0 then (if a0_1 = a1_1 then (some true) else (some false)) else (some false)

/-! ### laws_eqPairS: function 9 -/
def laws_eqPairS.l0 : Nat → List (S38) → List (S38) → Int → Option (Bool)
  | 0, _, _, _ => none
  | k + 1, x0, x1, x5 => if x5 < (x0.length : Int) then (if 0 ≤ x5 then (if x5 < (x1.length : Int) then ((laws_eqPair.f ((rd_T38 x0 x5).f0) ((rd_T38 x0 x5).f1) ((rd_T38 x1 x5).f0) ((rd_T38 x1 x5).f1)).bind fun t145 => (if t145 = true then (laws_eqPairS.l0 k x0 x1 (wrap64 (x5 + 1))) else (some false))) else (none)) else (none)) else (some true)
def laws_eqPairS.f (k : Nat) (l0 : List (S38)) (l1 : List (S38)) : Option (Bool) := if (l0.length : Int) = (l1.length : Int) then (laws_eqPairS.l0 k l0 l1 0) else (some false)

/-! ### laws_FnExactPairsFault: function 3 -/
def laws_FnExactPairsFault.f (k : Nat) (l0 : List (S41)) : Option (Bool) := (laws_szPairS.f l0 1048576).bind fun t146 => (if t146 < 0 then (some true) else ((laws_toPairS.f k l0).bind fun t147 => ((spec_PairsFault.f k t147).bind fun t150 => ((laws_toPairS.f k l0).bind fun t151 => ((impl_PairsFault.f k t151).bind fun t154 => (if t154 = t150 then ((laws_toPairS.f k l0).bind fun t155 => ((laws_eqPairS.f k t151 t155).bind fun t158 => (if t158 = true then (some true) else (some false)))) else (some false)))))))

/-! ### spec_l8Add: function 24 -/
def spec_l8Add.l0 : Nat → List (S38) → Int → Int → Int → Option ((List (S38)))
  | 0, _, _, _, _ => none
  | k + 1, x0, x5, x160000, x160001 => if x5 < (x0.length : Int) then (if 0 ≤ x5 then ((spec_l8Behind.f ((rd_T38 x0 x5).f0) ((rd_T38 x0 x5).f1) x160000 x160001).bind fun t161 => (if t161 = true then (spec_l8Add.l0 k x0 (wrap64 (x5 + 1)) x160000 x160001) else (if (((rd_T38 x0 x5).f0) == x160000 && (((rd_T38 x0 x5).f1) == x160001)) = true then ((some (([] : List (S38)) : List (S38))).bind fun y163 => (if y163.length + x0.length < 8796093022208 then (some (y163 ++ x0)) else (none))) else ((some (([] : List (S38)) : List (S38))).bind fun y169 => (if x5 ≤ (x0.length : Int) then ((some (x0.take (x5 : Int).toNat : List (S38))).bind fun y172 => (if y169.length + y172.length < 8796093022208 then ((some (y169 ++ y172 : List (S38))).bind fun y176 => ((some (([(⟨x160000, x160001⟩ : S38)] : List (S38)) : List (S38))).bind fun y179 => (if y176.length + y179.length < 8796093022208 then ((some (y176 ++ y179 : List (S38))).bind fun y182 => ((some (x0.drop (x5 : Int).toNat : List (S38))).bind fun y185 => (if y182.length + y185.length < 8796093022208 then (some (y182 ++ y185)) else (none)))) else (none)))) else (none))) else (none)))))) else (none)) else ((some (([] : List (S38)) : List (S38))).bind fun y192 => (if 0 ≤ x5 then (if x5 ≤ (x0.length : Int) then ((some (x0.take (x5 : Int).toNat : List (S38))).bind fun y195 => (if y192.length + y195.length < 8796093022208 then ((some (y192 ++ y195 : List (S38))).bind fun y199 => ((some (([(⟨x160000, x160001⟩ : S38)] : List (S38)) : List (S38))).bind fun y202 => (if y199.length + y202.length < 8796093022208 then ((some (y199 ++ y202 : List (S38))).bind fun y205 => ((some (x0.drop (x5 : Int).toNat : List (S38))).bind fun y208 => (if y205.length + y208.length < 8796093022208 then (some (y205 ++ y208)) else (none)))) else (none)))) else (none))) else (none)) else (none)))
def spec_l8Add.f (k : Nat) (l0 : List (S38)) (a1_0 : Int) (a1_1 : Int) : Option ((List (S38))) := spec_l8Add.l0 k l0 0 a1_0 a1_1

/-! ### spec_AddPair: function 10 -/
def spec_AddPair.j0 : Nat → List (S38) → Int → Int → Bool → Option (Int × (List (S38)))
  | 0, _, _, _, _ => none
  | k + 1, x0, x1, x2, x22 => if x22 = true then (some (3, ([] : List (S38)))) else ((spec_l8Add.f k x0 x1 x2).bind fun t219 => (if (t219.length : Int) > 400 then (some (2, ([] : List (S38)))) else (some (0, t219))))
def spec_AddPair.f (k : Nat) (l0 : List (S38)) (a1 : Int) (a2 : Int) : Option (Int × (List (S38))) := (spec_PairsFault.f k l0).bind fun t216 => (if t216 = 0 then ((spec_l1Value.f a1).bind fun t217 => (if t217 = true then ((spec_l1Key.f a2).bind fun t218 => (spec_AddPair.j0 k l0 a1 a2 (!t218))) else (spec_AddPair.j0 k l0 a1 a2 true))) else (some (t216, ([] : List (S38)))))

/-! ### slices_Clone_impl_Pair: function 25 -/
def slices_Clone_impl_Pair.f (l0 : List (S38)) : Option ((List (S38))) := (some (([] : List (S38)) : List (S38))).bind fun y222 => (if y222.length + l0.length < 8796093022208 then (some (y222 ++ l0)) else (none))

/-! ### slices_Reverse_impl_Pair: function 37 -/
def slices_Reverse_impl_Pair.l0 : Nat → List (S38) → Int → Int → Option ((List (S38)))
  | 0, _, _, _ => none
  | k + 1, x0, x2, x3 => if x2 < x3 then (if 0 ≤ x3 then (if x3 < (x0.length : Int) then (if 0 ≤ x2 then (if x2 < (x0.length : Int) then (slices_Reverse_impl_Pair.l0 k ((x0.set (x2 : Int).toNat (⟨(rd_T38 x0 x3).f0, (rd_T38 x0 x3).f1⟩ : S38)).set (x3 : Int).toNat (⟨(rd_T38 x0 x2).f0, (rd_T38 x0 x2).f1⟩ : S38)) (wrap64 (x2 + 1)) (wrap64 (x3 - 1))) else (none)) else (none)) else (none)) else (none)) else (some x0)
def slices_Reverse_impl_Pair.f (k : Nat) (l0 : List (S38)) : Option ((List (S38))) := slices_Reverse_impl_Pair.l0 k l0 0 (wrap64 ((l0.length : Int) - 1))

/-! ### laws_eqPairsResult: function 12 -/
def laws_eqPairsResult.f (k : Nat) (a0_0 : Int) (l0_1 : List (S38)) (a1_0 : Int) (l1_1 : List (S38)) : Option (Bool) := if a0_0 = a1_0 then ((laws_eqPairS.f k l0_1 l1_1).bind fun t253 => (if t253 = true then (some true) else (some false))) else (some false)

/-! ### laws_markPairS: function 13 -/
def laws_markPairS.l0 : Nat → List (S38) → Int → Int → Option (Int × (List (S38)))
  | 0, _, _, _ => none
  | k + 1, x0, x1, x5 => if x5 < (x0.length : Int) then (if 0 ≤ x5 then ((some (x0.set (x5 : Int).toNat (⟨x1, (rd_T38 x0 x5).f1⟩ : S38) : List (S38))).bind fun y254 => (laws_markPairS.l0 k (y254.set (x5 : Int).toNat (⟨(rd_T38 y254 x5).f0, wrap64 (x1 + 1)⟩ : S38)) (wrap64 ((wrap64 (x1 + 1)) + 1)) (wrap64 (x5 + 1)))) else (none)) else (some (x1, x0))
def laws_markPairS.f (k : Nat) (l0 : List (S38)) (a1 : Int) : Option (Int × (List (S38))) := laws_markPairS.l0 k l0 a1 0

/-! ### laws_markPairsResult: function 14 -/
def laws_markPairsResult.f (k : Nat) (a0_0 : Int) (l0_1 : List (S38)) (a1 : Int) : Option (Int × (List (S38))) := (laws_markPairS.f k l0_1 a1).bind fun bt257 => (some (bt257.1, bt257.2))

/-! ### laws_heldPairS: function 28 -/
def laws_heldPairS.l0 : Nat → List (S38) → Int → Int → Option (Int)
  | 0, _, _, _ => none
  | k + 1, x0, x1, x5 => if x5 < (x0.length : Int) then (if 0 ≤ x5 then (if ((rd_T38 x0 x5).f0) = x1 then (if ((rd_T38 x0 x5).f1) = (wrap64 (x1 + 1)) then (laws_heldPairS.l0 k x0 (wrap64 ((wrap64 (x1 + 1)) + 1)) (wrap64 (x5 + 1))) else (some (-1))) else (some (-1))) else (none)) else (some x1)
def laws_heldPairS.f (k : Nat) (l0 : List (S38)) (a1 : Int) : Option (Int) := laws_heldPairS.l0 k l0 a1 0

/-! ### laws_heldPairsResult: function 15 -/
def laws_heldPairsResult.f (k : Nat) (a0_0 : Int) (l0_1 : List (S38)) (a1 : Int) : Option (Int) := (laws_heldPairS.f k l0_1 a1).bind fun t262 => (if t262 < 0 then (some (-1)) else (some t262))

end Go.Proofs.Ytcpdnoogpfkkdaa.P
