-- Printed by this session's own program over the kit's print (wip/tools/mp.py). Not trusted: Lean checks it.
import Derived.Test.YtgbjfdaldakpiaaP0
import Derived.Test.YtgbjfdaldakpiaaLb
namespace Go.Proofs.Ytgbjfdaldakpiaa.P
open Go.RowKit Go.Proofs.YtgbjfdaldakpiaaW.PrintWords Go.Proofs.YtgbjfdaldakpiaaW.PrintLast Go.Proofs.YtgbjfdaldakpiaaW.PrintMore
attribute [local go_sem] max2_int min2_int max_two min_two max_three min_three max_four min_four   -- for this text's walks alone
set_option linter.unusedVariables false
set_option linter.unusedSimpArgs false

/-! ### laws_szPairS: function 4 -/
def laws_szPairS.f (l0 : List (S40)) (a1 : Int) : Option (Int) := if (wrap64 (a1 - (l0.length : Int))) < 0 then (some (-1)) else (some (wrap64 (a1 - (l0.length : Int))))

/-! ### spec_l1In: function 28 -/
def spec_l1In.f (a0 : Int) (a1 : Int) (a2 : Int) : Option (Bool) := if a0 ≥ a1 then (some (decide (a0 ≤ a2))) else (some false)

/-! ### spec_l1Value: function 14 -/
def spec_l1Value.f (a0 : Int) : Option (Bool) := (spec_l1In.f a0 0 9999).bind fun t101 => (some t101)

/-! ### spec_l1Key: function 15 -/
def spec_l1Key.f (a0 : Int) : Option (Bool) := (spec_l1In.f a0 0 31).bind fun t102 => (some t102)

/-! ### spec_l8Behind: function 27 -/
def spec_l8Behind.f (a0_0 : Int) (a0_1 : Int) (a1_0 : Int) (a1_1 : Int) : Option (Bool) := if a0_0 = a1_0 then (some (decide (a0_1 < a1_1))) else (some (decide (a0_0 < a1_0)))

/-! ### spec_PairsFault: function 13 -/
mutual
def spec_PairsFault.l0 : Nat → List (S38) → Int → Option (Int)
  | 0, _, _ => none
  | k + 1, x0, x3 => if x3 < (x0.length : Int) then (if 0 ≤ x3 then ((spec_l1Value.f ((rd_T38 x0 x3).f0)).bind fun t106 => (if t106 = true then ((spec_l1Key.f ((rd_T38 x0 x3).f1)).bind fun t108 => (spec_PairsFault.j1 k x0 x3 (!t108))) else (spec_PairsFault.j1 k x0 x3 true))) else (none)) else (some 0)
def spec_PairsFault.j1 : Nat → List (S38) → Int → Bool → Option (Int)
  | 0, _, _, _ => none
  | k + 1, x0, x3, x28 => if x28 = true then (some 3) else (if x3 > 0 then (if 0 ≤ (wrap64 (x3 - 1)) then (if (wrap64 (x3 - 1)) < (x0.length : Int) then (if 0 ≤ x3 then (if x3 < (x0.length : Int) then ((spec_l8Behind.f ((rd_T38 x0 (wrap64 (x3 - 1))).f0) ((rd_T38 x0 (wrap64 (x3 - 1))).f1) ((rd_T38 x0 x3).f0) ((rd_T38 x0 x3).f1)).bind fun t111 => (if t111 = true then (spec_PairsFault.l0 k x0 (wrap64 (x3 + 1))) else (some 1))) else (none)) else (none)) else (none)) else (none)) else (spec_PairsFault.l0 k x0 (wrap64 (x3 + 1))))
end
def spec_PairsFault.f (k : Nat) (l0 : List (S38)) : Option (Int) := if (l0.length : Int) > 400 then (some 2) else (spec_PairsFault.l0 k l0 0)

/-! ### spec_l8Add: function 16 -/
def spec_l8Add.l0 : Nat → List (S38) → Int → Int → Int → Option ((List (S38)))
  | 0, _, _, _, _ => none
  | k + 1, x0, x5, x113000, x113001 => if x5 < (x0.length : Int) then (if 0 ≤ x5 then ((spec_l8Behind.f ((rd_T38 x0 x5).f0) ((rd_T38 x0 x5).f1) x113000 x113001).bind fun t114 => (if t114 = true then (spec_l8Add.l0 k x0 (wrap64 (x5 + 1)) x113000 x113001) else (if (((rd_T38 x0 x5).f0) == x113000 && (((rd_T38 x0 x5).f1) == x113001)) = true then ((some (([] : List (S38)) : List (S38))).bind fun y116 => (if y116.length + x0.length < 8796093022208 then (some (y116 ++ x0)) else (none))) else ((some (([] : List (S38)) : List (S38))).bind fun y122 => (if x5 ≤ (x0.length : Int) then ((some (x0.take (x5 : Int).toNat : List (S38))).bind fun y125 => (if y122.length + y125.length < 8796093022208 then ((some (y122 ++ y125 : List (S38))).bind fun y129 => ((some (([(⟨x113000, x113001⟩ : S38)] : List (S38)) : List (S38))).bind fun y132 => (if y129.length + y132.length < 8796093022208 then ((some (y129 ++ y132 : List (S38))).bind fun y135 => ((some (x0.drop (x5 : Int).toNat : List (S38))).bind fun y138 => (if y135.length + y138.length < 8796093022208 then (some (y135 ++ y138)) else (none)))) else (none)))) else (none))) else (none)))))) else (none)) else ((some (([] : List (S38)) : List (S38))).bind fun y145 => (if 0 ≤ x5 then (if x5 ≤ (x0.length : Int) then ((some (x0.take (x5 : Int).toNat : List (S38))).bind fun y148 => (if y145.length + y148.length < 8796093022208 then ((some (y145 ++ y148 : List (S38))).bind fun y152 => ((some (([(⟨x113000, x113001⟩ : S38)] : List (S38)) : List (S38))).bind fun y155 => (if y152.length + y155.length < 8796093022208 then ((some (y152 ++ y155 : List (S38))).bind fun y158 => ((some (x0.drop (x5 : Int).toNat : List (S38))).bind fun y161 => (if y158.length + y161.length < 8796093022208 then (some (y158 ++ y161)) else (none)))) else (none)))) else (none))) else (none)) else (none)))
def spec_l8Add.f (k : Nat) (l0 : List (S38)) (a1_0 : Int) (a1_1 : Int) : Option ((List (S38))) := spec_l8Add.l0 k l0 0 a1_0 a1_1

/-! ### spec_AddPair: function 5 -/
def spec_AddPair.j0 : Nat → List (S38) → Int → Int → Bool → Option (Int × (List (S38)))
  | 0, _, _, _, _ => none
  | k + 1, x0, x1, x2, x22 => if x22 = true then (some (3, ([] : List (S38)))) else ((spec_l8Add.f k x0 x1 x2).bind fun t172 => (if (t172.length : Int) > 400 then (some (2, ([] : List (S38)))) else (some (0, t172))))
def spec_AddPair.f (k : Nat) (l0 : List (S38)) (a1 : Int) (a2 : Int) : Option (Int × (List (S38))) := (spec_PairsFault.f k l0).bind fun t169 => (if t169 = 0 then ((spec_l1Value.f a1).bind fun t170 => (if t170 = true then ((spec_l1Key.f a2).bind fun t171 => (spec_AddPair.j0 k l0 a1 a2 (!t171))) else (spec_AddPair.j0 k l0 a1 a2 true))) else (some (t169, ([] : List (S38)))))

/-! ### laws_toPair: function 17 -/
def laws_toPair.f (a0_0 : Int) (a0_1 : Int) : Option (Int × Int) := some (a0_0, a0_1)

/-! ### laws_toPairS: function 6 -/
def laws_toPairS.l0 : Nat → List (S40) → List (S38) → Int → Option ((List (S38)))
  | 0, _, _, _ => none
  | k + 1, x0, x3, x4 => if x4 < (x0.length : Int) then (if 0 ≤ x4 then ((laws_toPair.f ((rd_T40 x0 x4).f0) ((rd_T40 x0 x4).f1)).bind fun bt182 => (if x4 < (x3.length : Int) then (laws_toPairS.l0 k x0 (x3.set (x4 : Int).toNat (⟨bt182.1, bt182.2⟩ : S38)) (wrap64 (x4 + 1))) else (none))) else (none)) else (some x3)
def laws_toPairS.f (k : Nat) (l0 : List (S40)) : Option ((List (S38))) := if 0 ≤ (l0.length : Int) then (if ((l0.length : Int) : Int).toNat ≤ 17592186044416 then (laws_toPairS.l0 k l0 (List.replicate ((l0.length : Int) : Int).toNat z38) 0) else (none)) else (none)

/-! ### impl_within: function 29 -/
def impl_within.f (a0 : Int) (a1 : Int) (a2 : Int) : Option (Bool) := if a1 ≤ a0 then (some (decide (a0 ≤ a2))) else (some false)

/-! ### impl_isValue: function 19 -/
def impl_isValue.f (a0 : Int) : Option (Bool) := (impl_within.f a0 0 9999).bind fun t185 => (some t185)

/-! ### impl_isKey: function 20 -/
def impl_isKey.f (a0 : Int) : Option (Bool) := (impl_within.f a0 0 31).bind fun t186 => (some t186)

/-! ### cmp_Or_int: function 30 -/
def cmp_Or_int.l0 : Nat → Int → List Int → Int → Int → Option (Int)
  | 0, _, _, _, _ => none
  | k + 1, x3, x6, x7, x8 => if x8 < x7 then (if 0 ≤ x8 then (if x8 < (x6.length : Int) then (if (rd x6 x8) = x3 then (cmp_Or_int.l0 k x3 x6 x7 (wrap64 (x8 + 1))) else (some (rd x6 x8))) else (none)) else (none)) else (some x3)
def cmp_Or_int.f (k : Nat) (l0 : List Int) : Option (Int) := cmp_Or_int.l0 k 0 l0 (l0.length : Int) 0

/-! ### cmp_isNaN_int64: function 34 -/
def cmp_isNaN_int64.f (a0 : Int) : Option (Bool) := some (a0 != a0)

/-! ### cmp_Compare_int64: function 31 -/
def cmp_Compare_int64.f (a0 : Int) (a1 : Int) : Option (Int) := (cmp_isNaN_int64.f a0).bind fun t188 => ((cmp_isNaN_int64.f a1).bind fun t189 => (if t188 = true then (if t189 = true then (some 0) else (some (-1))) else (if t189 = true then (some 1) else (if a0 < a1 then (some (-1)) else (if a0 > a1 then (some 1) else (some 0))))))

/-! ### impl_comparePairs: function 23 -/
def impl_comparePairs.f (k : Nat) (a0_0 : Int) (a0_1 : Int) (a1_0 : Int) (a1_1 : Int) : Option (Int) := (cmp_Compare_int64.f a0_0 a1_0).bind fun t192 => ((cmp_Compare_int64.f a0_1 a1_1).bind fun t193 => ((cmp_Or_int.f k (([t192, t193] : List Int))).bind fun t197 => (some t197)))

/-! ### impl_PairsFault: function 18 -/
mutual
def impl_PairsFault.l0 : Nat → List (S38) → List (S38) → Int → Int → Option (Int)
  | 0, _, _, _, _ => none
  | k + 1, x0, x8, x9, x10 => if x10 < x9 then (if 0 ≤ x10 then (if x10 < (x8.length : Int) then ((impl_isValue.f ((rd_T38 x8 x10).f0)).bind fun t200 => (if t200 = true then ((impl_isKey.f ((rd_T38 x8 x10).f1)).bind fun t201 => (impl_PairsFault.j1 k x0 x10 x8 x9 x10 (!t201) ((rd_T38 x8 x10).f0) ((rd_T38 x8 x10).f1))) else (impl_PairsFault.j1 k x0 x10 x8 x9 x10 true ((rd_T38 x8 x10).f0) ((rd_T38 x8 x10).f1)))) else (none)) else (none)) else (some 0)
def impl_PairsFault.j1 : Nat → List (S38) → Int → List (S38) → Int → Int → Bool → Int → Int → Option (Int)
  | 0, _, _, _, _, _, _, _, _ => none
  | k + 1, x0, x3, x8, x9, x10, x15, x200000, x200001 => if x15 = true then (some 3) else (if x3 > 0 then (if 0 ≤ (wrap64 (x3 - 1)) then (if (wrap64 (x3 - 1)) < (x0.length : Int) then ((impl_comparePairs.f k x200000 x200001 ((rd_T38 x0 (wrap64 (x3 - 1))).f0) ((rd_T38 x0 (wrap64 (x3 - 1))).f1)).bind fun t203 => (if t203 ≤ 0 then (some 1) else (impl_PairsFault.l0 k x0 x8 x9 (wrap64 (x10 + 1))))) else (none)) else (none)) else (impl_PairsFault.l0 k x0 x8 x9 (wrap64 (x10 + 1))))
end
def impl_PairsFault.f (k : Nat) (l0 : List (S38)) : Option (Int) := if (l0.length : Int) > 400 then (some 2) else (impl_PairsFault.l0 k l0 l0 (l0.length : Int) 0)

/-! ### slices_Clone_impl_Pair: function 21 -/
def slices_Clone_impl_Pair.f (l0 : List (S38)) : Option ((List (S38))) := (some (([] : List (S38)) : List (S38))).bind fun y204 => (if y204.length + l0.length < 8796093022208 then (some (y204 ++ l0)) else (none))

/-! ### slices_BinarySearchFunc_impl_Pair: function 22 -/
-- NEEDS Derived.Test.@N@Lb
def impl_comparePairs_bs.c (a1_0 : Int) (a1_1 : Int) (x : S38) : Int := if x.f0 < a1_0 then -1 else if a1_0 < x.f0 then 1 else if x.f1 < a1_1 then -1 else if a1_1 < x.f1 then 1 else 0
def impl_comparePairs_bs.f (l0 : List (S38)) (a1_0 : Int) (a1_1 : Int) (fv : Value) : Option (Int × Bool) := some (Go.Proofs.Ytgbjfdaldakpiaa.Lb.bs (impl_comparePairs_bs.c a1_0 a1_1) z38 l0, Go.Proofs.Ytgbjfdaldakpiaa.Lb.bsHit (impl_comparePairs_bs.c a1_0 a1_1) z38 l0)

/-! ### slices_Insert_impl_Pair: function 24 -/
def slices_Insert_impl_Pair.f0 (l0 : List (S38)) (a1 : Int) (l2 : List (S38)) : Option ((List (S38))) := if l0.length + l2.length < 8796093022208 then (some (l0 ++ l2)) else (none)
def slices_Insert_impl_Pair.f (l0 : List (S38)) (a1 : Int) (l2 : List (S38)) : Option (List (S38)) := if 0 ≤ a1 then (if a1 ≤ (l0.length : Int) then (if 0 < l2.length then (if l0.length + l2.length < 8796093022208 then some (l0.take a1.toNat ++ (l2 ++ l0.drop a1.toNat)) else none) else none) else none) else none

/-! ### impl_AddPair: function 7 -/
mutual
def impl_AddPair.j0 : Nat → List (S38) → Int → Int → Int → Bool → Option (Int × (List (S38)))
  | 0, _, _, _, _, _ => none
  | k + 1, x0, x1, x2, x7, x25 => if x25 = true then (impl_AddPair.j1 k x0 x1 x2 3) else (impl_AddPair.j1 k x0 x1 x2 x7)
def impl_AddPair.j1 : Nat → List (S38) → Int → Int → Int → Option (Int × (List (S38)))
  | 0, _, _, _, _ => none
  | k + 1, x0, x1, x2, x7 => if x7 = 0 then ((slices_Clone_impl_Pair.f x0).bind fun t218 => ((impl_comparePairs_bs.f t218 x1 x2 (.func (.func 23) #[] #[])).bind fun bt221 => (if bt221.2 = true then (some (0, t218)) else (if (t218.length : Int) = 400 then (some (2, ([] : List (S38)))) else ((slices_Insert_impl_Pair.f t218 bt221.1 (([(⟨x1, x2⟩ : S38)] : List (S38)))).bind fun t226 => (some (0, t226))))))) else (some (x7, ([] : List (S38))))
end
def impl_AddPair.f (k : Nat) (l0 : List (S38)) (a1 : Int) (a2 : Int) : Option (Int × (List (S38))) := (impl_PairsFault.f k l0).bind fun t214 => (if t214 = 0 then ((impl_isValue.f a1).bind fun t215 => (if t215 = true then ((impl_isKey.f a2).bind fun t216 => (impl_AddPair.j0 k l0 a1 a2 t214 (!t216))) else (impl_AddPair.j0 k l0 a1 a2 t214 true))) else (impl_AddPair.j0 k l0 a1 a2 t214 false))

/-! ### laws_eqPair: function 25 -/
def laws_eqPair.f (a0_0 : Int) (a0_1 : Int) (a1_0 : Int) (a1_1 : Int) : Option (Bool) := if a0_0 = a1_0 then (if a0_1 = a1_1 then (some true) else (some false)) else (some false)

/-! ### laws_eqPairS: function 9 -/
def laws_eqPairS.l0 : Nat → List (S38) → List (S38) → Int → Option (Bool)
  | 0, _, _, _ => none
  | k + 1, x0, x1, x5 => if x5 < (x0.length : Int) then (if 0 ≤ x5 then (if x5 < (x1.length : Int) then ((laws_eqPair.f ((rd_T38 x0 x5).f0) ((rd_T38 x0 x5).f1) ((rd_T38 x1 x5).f0) ((rd_T38 x1 x5).f1)).bind fun t233 => (if t233 = true then (laws_eqPairS.l0 k x0 x1 (wrap64 (x5 + 1))) else (some false))) else (none)) else (none)) else (some true)
def laws_eqPairS.f (k : Nat) (l0 : List (S38)) (l1 : List (S38)) : Option (Bool) := if (l0.length : Int) = (l1.length : Int) then (laws_eqPairS.l0 k l0 l1 0) else (some false)

/-! ### laws_eqPairsResult: function 8 -/
def laws_eqPairsResult.f (k : Nat) (a0_0 : Int) (l0_1 : List (S38)) (a1_0 : Int) (l1_1 : List (S38)) : Option (Bool) := if a0_0 = a1_0 then ((laws_eqPairS.f k l0_1 l1_1).bind fun t236 => (if t236 = true then (some true) else (some false))) else (some false)

/-! ### laws_markPairS: function 10 -/
def laws_markPairS.l0 : Nat → List (S38) → Int → Int → Option (Int × (List (S38)))
  | 0, _, _, _ => none
  | k + 1, x0, x1, x5 => if x5 < (x0.length : Int) then (if 0 ≤ x5 then ((some (x0.set (x5 : Int).toNat (⟨x1, (rd_T38 x0 x5).f1⟩ : S38) : List (S38))).bind fun y237 => (laws_markPairS.l0 k (y237.set (x5 : Int).toNat (⟨(rd_T38 y237 x5).f0, wrap64 (x1 + 1)⟩ : S38)) (wrap64 ((wrap64 (x1 + 1)) + 1)) (wrap64 (x5 + 1)))) else (none)) else (some (x1, x0))
def laws_markPairS.f (k : Nat) (l0 : List (S38)) (a1 : Int) : Option (Int × (List (S38))) := laws_markPairS.l0 k l0 a1 0

/-! ### laws_markPairsResult: function 11 -/
def laws_markPairsResult.f (k : Nat) (a0_0 : Int) (l0_1 : List (S38)) (a1 : Int) : Option (Int × (List (S38))) := (laws_markPairS.f k l0_1 a1).bind fun bt240 => (some (bt240.1, bt240.2))

/-! ### laws_heldPairS: function 26 -/
def laws_heldPairS.l0 : Nat → List (S38) → Int → Int → Option (Int)
  | 0, _, _, _ => none
  | k + 1, x0, x1, x5 => if x5 < (x0.length : Int) then (if 0 ≤ x5 then (if ((rd_T38 x0 x5).f0) = x1 then (if ((rd_T38 x0 x5).f1) = (wrap64 (x1 + 1)) then (laws_heldPairS.l0 k x0 (wrap64 ((wrap64 (x1 + 1)) + 1)) (wrap64 (x5 + 1))) else (some (-1))) else (some (-1))) else (none)) else (some x1)
def laws_heldPairS.f (k : Nat) (l0 : List (S38)) (a1 : Int) : Option (Int) := laws_heldPairS.l0 k l0 a1 0

/-! ### laws_heldPairsResult: function 12 -/
def laws_heldPairsResult.f (k : Nat) (a0_0 : Int) (l0_1 : List (S38)) (a1 : Int) : Option (Int) := (laws_heldPairS.f k l0_1 a1).bind fun t245 => (if t245 < 0 then (some (-1)) else (some t245))

/-! ### laws_FnExactAddPair: function 3 -/
def laws_FnExactAddPair.j0 : Nat → List (S40) → Int → Int → Bool → Int → List (S38) → Int → List (S38) → Option (Bool)
  | 0, _, _, _, _, _, _, _, _ => none
  | k + 1, x0, x1, x2, x50, x255000, x255001, x263000, x263001 => if x50 = true then (some false) else ((laws_markPairsResult.f k x263000 x263001 1).bind fun bt271 => ((laws_heldPairsResult.f k x263000 bt271.2 1).bind fun t273 => (if t273 < 0 then (some false) else (if t273 = bt271.1 then ((laws_toPairS.f k x0).bind fun t274 => ((impl_AddPair.f k t274 x1 x2).bind fun bt277 => ((laws_eqPairsResult.f k bt277.1 bt277.2 x255000 x255001).bind fun t282 => (if t282 = true then ((laws_heldPairsResult.f k x263000 bt271.2 1).bind fun t283 => (if t283 < 0 then (some false) else (if t283 = bt271.1 then (some true) else (some false)))) else (some false))))) else (some false)))))
def laws_FnExactAddPair.f (k : Nat) (l0 : List (S40)) (a1 : Int) (a2 : Int) : Option (Bool) := (laws_szPairS.f l0 1048576).bind fun t246 => (if t246 < 0 then (some true) else ((laws_toPairS.f k l0).bind fun t247 => ((spec_AddPair.f k t247 a1 a2).bind fun bt250 => ((laws_toPairS.f k l0).bind fun t255 => ((impl_AddPair.f k t255 a1 a2).bind fun bt258 => ((laws_eqPairsResult.f k bt258.1 bt258.2 bt250.1 bt250.2).bind fun t263 => (if t263 = true then ((laws_toPairS.f k l0).bind fun t264 => ((laws_eqPairS.f k t255 t264).bind fun t267 => (if t267 = true then ((laws_markPairS.f k t255 1).bind fun bt268 => (if bt268.1 < 0 then (laws_FnExactAddPair.j0 k l0 a1 a2 true bt250.1 bt250.2 bt258.1 bt258.2) else ((laws_eqPairsResult.f k bt258.1 bt258.2 bt250.1 bt250.2).bind fun t270 => (laws_FnExactAddPair.j0 k l0 a1 a2 (!t270) bt250.1 bt250.2 bt258.1 bt258.2)))) else (some false)))) else (some false))))))))

end Go.Proofs.Ytgbjfdaldakpiaa.P
