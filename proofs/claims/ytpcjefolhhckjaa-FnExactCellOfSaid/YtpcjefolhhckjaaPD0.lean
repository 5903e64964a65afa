-- Printed by this session's own program over the kit's print (wip/tools/mp.py). Not trusted: Lean checks it.
import Derived.Test.YtpcjefolhhckjaaP0
import Derived.Test.YtpcjefolhhckjaaLb
namespace Go.Proofs.Ytpcjefolhhckjaa.P
open Go.RowKit Go.Proofs.YtpcjefolhhckjaaW.PrintWords Go.Proofs.YtpcjefolhhckjaaW.PrintLast Go.Proofs.YtpcjefolhhckjaaW.PrintMore
attribute [local go_sem] max2_int min2_int max_two min_two max_three min_three max_four min_four   -- for this text's walks alone
set_option linter.unusedVariables false
set_option linter.unusedSimpArgs false

/-! ### laws_FnExactConstants: function 3 -/
def laws_FnExactConstants.f  : Option (Bool) := some true

/-! ### spec_SumBytes: function 15 -/
def spec_SumBytes.l0 : Nat → List Int → Int → Int → Option (Int)
  | 0, _, _, _ => none
  | k + 1, x0, x3, x4 => if x4 < (x0.length : Int) then (if 0 ≤ x4 then (spec_SumBytes.l0 k x0 (Int.tmod (wrap64 ((wrap64 ((wrap64 (x3 * 269)) + (wrap64 (rd x0 x4)))) + 1)) 65521) (wrap64 (x4 + 1))) else (none)) else (some x3)
def spec_SumBytes.f (k : Nat) (l0 : List Int) : Option (Int) := spec_SumBytes.l0 k l0 9 0

/-! ### laws_toByteS: function 16 -/
def laws_toByteS.l0 : Nat → List Int → List Int → Int → Option (List Int)
  | 0, _, _, _ => none
  | k + 1, x0, x3, x4 => if x4 < (x0.length : Int) then (if 0 ≤ x4 then (if x4 < (x3.length : Int) then (laws_toByteS.l0 k x0 (x3.set (x4 : Int).toNat (rd x0 x4)) (wrap64 (x4 + 1))) else (none)) else (none)) else (some x3)
def laws_toByteS.f (k : Nat) (l0 : List Int) : Option (List Int) := if 0 ≤ (l0.length : Int) then (if ((l0.length : Int) : Int).toNat ≤ 281474976710656 then (laws_toByteS.l0 k l0 (List.replicate ((l0.length : Int) : Int).toNat 0) 0) else (none)) else (none)

/-! ### impl_SumBytes: function 17 -/
def impl_SumBytes.l0 : Nat → Int → List Int → Int → Int → Option (Int)
  | 0, _, _, _, _ => none
  | k + 1, x3, x6, x7, x8 => if x8 < x7 then (if 0 ≤ x8 then (if x8 < (x6.length : Int) then (impl_SumBytes.l0 k (Int.tmod (wrap64 ((wrap64 ((wrap64 (x3 * 269)) + (wrap64 (rd x6 x8)))) + 1)) 65521) x6 x7 (wrap64 (x8 + 1))) else (none)) else (none)) else (some x3)
def impl_SumBytes.f (k : Nat) (l0 : List Int) : Option (Int) := impl_SumBytes.l0 k 9 l0 (l0.length : Int) 0

/-! ### laws_eqByteS: function 18 -/
def laws_eqByteS.l0 : Nat → List Int → List Int → Int → Option (Bool)
  | 0, _, _, _ => none
  | k + 1, x0, x1, x5 => if x5 < (x0.length : Int) then (if 0 ≤ x5 then (if x5 < (x1.length : Int) then (if (rd x0 x5) = (rd x1 x5) then (laws_eqByteS.l0 k x0 x1 (wrap64 (x5 + 1))) else (some false)) else (none)) else (none)) else (some true)
def laws_eqByteS.f (k : Nat) (l0 : List Int) (l1 : List Int) : Option (Bool) := if (l0.length : Int) = (l1.length : Int) then (laws_eqByteS.l0 k l0 l1 0) else (some false)

/-! ### laws_FnExactSumBytes: function 4 -/
def laws_FnExactSumBytes.f (k : Nat) (l0 : List Int) : Option (Bool) := if (l0.length : Int) > 1048576 then (some true) else ((laws_toByteS.f k l0).bind fun t110 => ((spec_SumBytes.f k t110).bind fun t113 => ((laws_toByteS.f k l0).bind fun t114 => ((impl_SumBytes.f k t114).bind fun t117 => (if t117 = t113 then ((laws_toByteS.f k l0).bind fun t118 => ((laws_eqByteS.f k t114 t118).bind fun t121 => (if t121 = true then (some true) else (some false)))) else (some false))))))

/-! ### spec_l1In: function 55 -/
def spec_l1In.f (a0 : Int) (a1 : Int) (a2 : Int) : Option (Bool) := if a0 ≥ a1 then (some (decide (a0 ≤ a2))) else (some false)

/-! ### spec_NewPage: function 19 -/
def spec_NewPage.f (a0 : Int) : Option (Int × Int × Int × (List (S58))) := (spec_l1In.f a0 0 7).bind fun t123 => (if t123 = true then (some (0, a0, 0, ([] : List (S58)))) else (some (3, 0, 0, ([] : List (S58)))))

/-! ### impl_within: function 56 -/
def impl_within.f (a0 : Int) (a1 : Int) (a2 : Int) : Option (Bool) := if a1 ≤ a0 then (some (decide (a0 ≤ a2))) else (some false)

/-! ### impl_NewPage: function 20 -/
def impl_NewPage.f (a0 : Int) : Option (Int × Int × Int × (List (S58))) := (impl_within.f a0 0 7).bind fun t125 => (if t125 = true then (some (0, a0, 0, ([] : List (S58)))) else (some (3, 0, 0, ([] : List (S58)))))

/-! ### laws_eqCell: function 92 -/
def laws_eqCell.f (a0_0 : Int) (a0_1 : Int) (a1_0 : Int) (a1_1 : Int) : Option (Bool) := if a0_0 = a1_0 then (if a0_1 = a1_1 then (some true) else (some false)) else (some false)

/-! ### laws_eqCellS: function 65 -/
def laws_eqCellS.l0 : Nat → List (S58) → List (S58) → Int → Option (Bool)
  | 0, _, _, _ => none
  | k + 1, x0, x1, x5 => if x5 < (x0.length : Int) then (if 0 ≤ x5 then (if x5 < (x1.length : Int) then ((laws_eqCell.f ((rd_T58 x0 x5).f0) ((rd_T58 x0 x5).f1) ((rd_T58 x1 x5).f0) ((rd_T58 x1 x5).f1)).bind fun t130 => (if t130 = true then (laws_eqCellS.l0 k x0 x1 (wrap64 (x5 + 1))) else (some false))) else (none)) else (none)) else (some true)
def laws_eqCellS.f (k : Nat) (l0 : List (S58)) (l1 : List (S58)) : Option (Bool) := if (l0.length : Int) = (l1.length : Int) then (laws_eqCellS.l0 k l0 l1 0) else (some false)

/-! ### laws_eqPage: function 28 -/
def laws_eqPage.f (k : Nat) (a0_0 : Int) (a0_1 : Int) (l0_2 : List (S58)) (a1_0 : Int) (a1_1 : Int) (l1_2 : List (S58)) : Option (Bool) := if a0_0 = a1_0 then (if a0_1 = a1_1 then ((laws_eqCellS.f k l0_2 l1_2).bind fun t133 => (if t133 = true then (some true) else (some false))) else (some false)) else (some false)

/-! ### laws_eqPageResult: function 21 -/
def laws_eqPageResult.f (k : Nat) (a0_0 : Int) (a0_1 : Int) (a0_2 : Int) (l0_3 : List (S58)) (a1_0 : Int) (a1_1 : Int) (a1_2 : Int) (l1_3 : List (S58)) : Option (Bool) := if a0_0 = a1_0 then ((laws_eqPage.f k a0_1 a0_2 l0_3 a1_1 a1_2 l1_3).bind fun t136 => (if t136 = true then (some true) else (some false))) else (some false)

/-! ### laws_markCellS: function 72 -/
def laws_markCellS.l0 : Nat → List (S58) → Int → Int → Option (Int × (List (S58)))
  | 0, _, _, _ => none
  | k + 1, x0, x1, x5 => if x5 < (x0.length : Int) then (if 0 ≤ x5 then ((some (x0.set (x5 : Int).toNat (⟨x1, (rd_T58 x0 x5).f1⟩ : S58) : List (S58))).bind fun y137 => (laws_markCellS.l0 k (y137.set (x5 : Int).toNat (⟨(rd_T58 y137 x5).f0, wrap64 (x1 + 1)⟩ : S58)) (wrap64 ((wrap64 (x1 + 1)) + 1)) (wrap64 (x5 + 1)))) else (none)) else (some (x1, x0))
def laws_markCellS.f (k : Nat) (l0 : List (S58)) (a1 : Int) : Option (Int × (List (S58))) := laws_markCellS.l0 k l0 a1 0

/-! ### laws_markPage: function 34 -/
def laws_markPage.f (k : Nat) (a0_0 : Int) (a0_1 : Int) (l0_2 : List (S58)) (a1 : Int) : Option (Int × (List (S58))) := (laws_markCellS.f k l0_2 a1).bind fun bt140 => (some (bt140.1, bt140.2))

/-! ### laws_markPageResult: function 22 -/
def laws_markPageResult.f (k : Nat) (a0_0 : Int) (a0_1 : Int) (a0_2 : Int) (l0_3 : List (S58)) (a1 : Int) : Option (Int × (List (S58))) := (laws_markPage.f k a0_1 a0_2 l0_3 a1).bind fun bt143 => (some (bt143.1, bt143.2))

/-! ### laws_heldCellS: function 90 -/
def laws_heldCellS.l0 : Nat → List (S58) → Int → Int → Option (Int)
  | 0, _, _, _ => none
  | k + 1, x0, x1, x5 => if x5 < (x0.length : Int) then (if 0 ≤ x5 then (if ((rd_T58 x0 x5).f0) = x1 then (if ((rd_T58 x0 x5).f1) = (wrap64 (x1 + 1)) then (laws_heldCellS.l0 k x0 (wrap64 ((wrap64 (x1 + 1)) + 1)) (wrap64 (x5 + 1))) else (some (-1))) else (some (-1))) else (none)) else (some x1)
def laws_heldCellS.f (k : Nat) (l0 : List (S58)) (a1 : Int) : Option (Int) := laws_heldCellS.l0 k l0 a1 0

/-! ### laws_heldPage: function 57 -/
def laws_heldPage.f (k : Nat) (a0_0 : Int) (a0_1 : Int) (l0_2 : List (S58)) (a1 : Int) : Option (Int) := (laws_heldCellS.f k l0_2 a1).bind fun t148 => (if t148 < 0 then (some (-1)) else (some t148))

/-! ### laws_heldPageResult: function 23 -/
def laws_heldPageResult.f (k : Nat) (a0_0 : Int) (a0_1 : Int) (a0_2 : Int) (l0_3 : List (S58)) (a1 : Int) : Option (Int) := (laws_heldPage.f k a0_1 a0_2 l0_3 a1).bind fun t150 => (if t150 < 0 then (some (-1)) else (some t150))

/-! ### laws_FnExactNewPage: function 5 -/
def laws_FnExactNewPage.f (k : Nat) (a0 : Int) : Option (Bool) := (spec_NewPage.f a0).bind fun bt151 => ((impl_NewPage.f a0).bind fun bt158 => ((laws_eqPageResult.f k bt158.1 bt158.2.1 bt158.2.2.1 bt158.2.2.2 bt151.1 bt151.2.1 bt151.2.2.1 bt151.2.2.2).bind fun t165 => (if t165 = true then ((laws_markPageResult.f k bt158.1 bt158.2.1 bt158.2.2.1 bt158.2.2.2 1).bind fun bt166 => ((laws_heldPageResult.f k bt158.1 bt158.2.1 bt158.2.2.1 bt166.2 1).bind fun t168 => (if t168 < 0 then (some false) else (if t168 = bt166.1 then ((impl_NewPage.f a0).bind fun bt169 => ((laws_eqPageResult.f k bt169.1 bt169.2.1 bt169.2.2.1 bt169.2.2.2 bt151.1 bt151.2.1 bt151.2.2.1 bt151.2.2.2).bind fun t176 => (if t176 = true then ((laws_heldPageResult.f k bt158.1 bt158.2.1 bt158.2.2.1 bt166.2 1).bind fun t177 => (if t177 < 0 then (some false) else (if t177 = bt166.1 then (some true) else (some false)))) else (some false)))) else (some false))))) else (some false))))

/-! ### laws_szCellS: function 58 -/
def laws_szCellS.f (l0 : List (S100)) (a1 : Int) : Option (Int) := if (wrap64 (a1 - (l0.length : Int))) < 0 then (some (-1)) else (some (wrap64 (a1 - (l0.length : Int))))

/-! ### laws_szPage: function 24 -/
def laws_szPage.f (a0_0 : Int) (a0_1 : Int) (l0_2 : List (S100)) (a1 : Int) : Option (Int) := (laws_szCellS.f l0_2 a1).bind fun t179 => (if t179 < 0 then (some (-1)) else (some t179))

/-! ### spec_l1Lsn: function 59 -/
def spec_l1Lsn.f (a0 : Int) : Option (Bool) := (spec_l1In.f a0 0 1000000).bind fun t180 => (some t180)

/-! ### spec_l1Key: function 60 -/
def spec_l1Key.f (a0 : Int) : Option (Bool) := (spec_l1In.f a0 0 31).bind fun t181 => (some t181)

/-! ### spec_l1Value: function 61 -/
def spec_l1Value.f (a0 : Int) : Option (Bool) := (spec_l1In.f a0 0 9999).bind fun t182 => (some t182)

/-! ### spec_PageFault: function 25 -/
mutual
def spec_PageFault.j0 : Nat → Bool → Int → Int → List (S58) → Option (Int)
  | 0, _, _, _, _ => none
  | k + 1, x13, x184000, x184001, x184002 => if x13 = true then (some 3) else (if (x184002.length : Int) > 12 then (some 2) else (spec_PageFault.l0 k 0 x184000 x184001 x184002))
def spec_PageFault.l0 : Nat → Int → Int → Int → List (S58) → Option (Int)
  | 0, _, _, _, _ => none
  | k + 1, x3, x184000, x184001, x184002 => if x3 < (x184002.length : Int) then (if 0 ≤ x3 then ((spec_l1Key.f ((rd_T58 x184002 x3).f0)).bind fun t187 => (if t187 = true then ((spec_l1Value.f ((rd_T58 x184002 x3).f1)).bind fun t189 => (spec_PageFault.j2 k x3 (!t189) x184000 x184001 x184002)) else (spec_PageFault.j2 k x3 true x184000 x184001 x184002))) else (none)) else (some 0)
def spec_PageFault.j2 : Nat → Int → Bool → Int → Int → List (S58) → Option (Int)
  | 0, _, _, _, _, _ => none
  | k + 1, x3, x42, x184000, x184001, x184002 => if x42 = true then (some 3) else (if x3 > 0 then (if 0 ≤ x3 then (if x3 < (x184002.length : Int) then (if 0 ≤ (wrap64 (x3 - 1)) then (if (wrap64 (x3 - 1)) < (x184002.length : Int) then (if ((rd_T58 x184002 x3).f0) ≤ ((rd_T58 x184002 (wrap64 (x3 - 1))).f0) then (some 1) else (spec_PageFault.l0 k (wrap64 (x3 + 1)) x184000 x184001 x184002)) else (none)) else (none)) else (none)) else (none)) else (spec_PageFault.l0 k (wrap64 (x3 + 1)) x184000 x184001 x184002))
end
def spec_PageFault.f (k : Nat) (a0_0 : Int) (a0_1 : Int) (l0_2 : List (S58)) : Option (Int) := (spec_l1In.f a0_0 0 7).bind fun t184 => (if t184 = true then ((spec_l1Lsn.f a0_1).bind fun t185 => (spec_PageFault.j0 k (!t185) a0_0 a0_1 l0_2)) else (spec_PageFault.j0 k true a0_0 a0_1 l0_2))

/-! ### laws_toCell: function 91 -/
def laws_toCell.f (a0_0 : Int) (a0_1 : Int) : Option (Int × Int) := some (a0_0, a0_1)

/-! ### laws_toCellS: function 62 -/
def laws_toCellS.l0 : Nat → List (S100) → List (S58) → Int → Option ((List (S58)))
  | 0, _, _, _ => none
  | k + 1, x0, x3, x4 => if x4 < (x0.length : Int) then (if 0 ≤ x4 then ((laws_toCell.f ((rd_T100 x0 x4).f0) ((rd_T100 x0 x4).f1)).bind fun bt199 => (if x4 < (x3.length : Int) then (laws_toCellS.l0 k x0 (x3.set (x4 : Int).toNat (⟨bt199.1, bt199.2⟩ : S58)) (wrap64 (x4 + 1))) else (none))) else (none)) else (some x3)
def laws_toCellS.f (k : Nat) (l0 : List (S100)) : Option ((List (S58))) := if 0 ≤ (l0.length : Int) then (if ((l0.length : Int) : Int).toNat ≤ 17592186044416 then (laws_toCellS.l0 k l0 (List.replicate ((l0.length : Int) : Int).toNat z58) 0) else (none)) else (none)

/-! ### laws_toPage: function 26 -/
def laws_toPage.f (k : Nat) (a0_0 : Int) (a0_1 : Int) (l0_2 : List (S100)) : Option (Int × Int × (List (S58))) := (laws_toCellS.f k l0_2).bind fun t205 => (some (a0_0, a0_1, t205))

/-! ### impl_isLsn: function 63 -/
def impl_isLsn.f (a0 : Int) : Option (Bool) := (impl_within.f a0 0 1000000).bind fun t208 => (some t208)

/-! ### impl_isKey: function 69 -/
def impl_isKey.f (a0 : Int) : Option (Bool) := (impl_within.f a0 0 31).bind fun t209 => (some t209)

/-! ### impl_isValue: function 74 -/
def impl_isValue.f (a0 : Int) : Option (Bool) := (impl_within.f a0 0 9999).bind fun t210 => (some t210)

/-! ### impl_cellsFault: function 64 -/
mutual
def impl_cellsFault.l0 : Nat → List (S58) → List (S58) → Int → Int → Option (Int)
  | 0, _, _, _, _ => none
  | k + 1, x0, x5, x6, x7 => if x7 < x6 then (if 0 ≤ x7 then (if x7 < (x5.length : Int) then ((impl_isKey.f ((rd_T58 x5 x7).f0)).bind fun t213 => (if t213 = true then ((impl_isValue.f ((rd_T58 x5 x7).f1)).bind fun t214 => (impl_cellsFault.j1 k x0 x7 x5 x6 x7 (!t214) ((rd_T58 x5 x7).f0) ((rd_T58 x5 x7).f1))) else (impl_cellsFault.j1 k x0 x7 x5 x6 x7 true ((rd_T58 x5 x7).f0) ((rd_T58 x5 x7).f1)))) else (none)) else (none)) else (some 0)
def impl_cellsFault.j1 : Nat → List (S58) → Int → List (S58) → Int → Int → Bool → Int → Int → Option (Int)
  | 0, _, _, _, _, _, _, _, _ => none
  | k + 1, x0, x3, x5, x6, x7, x12, x213000, x213001 => if x12 = true then (some 3) else (if x3 > 0 then (if 0 ≤ (wrap64 (x3 - 1)) then (if (wrap64 (x3 - 1)) < (x0.length : Int) then (if x213000 ≤ ((rd_T58 x0 (wrap64 (x3 - 1))).f0) then (some 1) else (impl_cellsFault.l0 k x0 x5 x6 (wrap64 (x7 + 1)))) else (none)) else (none)) else (impl_cellsFault.l0 k x0 x5 x6 (wrap64 (x7 + 1))))
end
def impl_cellsFault.f (k : Nat) (l0 : List (S58)) : Option (Int) := impl_cellsFault.l0 k l0 l0 (l0.length : Int) 0

/-! ### impl_PageFault: function 27 -/
def impl_PageFault.j0 : Nat → Bool → Int → Int → List (S58) → Option (Int)
  | 0, _, _, _, _ => none
  | k + 1, x3, x217000, x217001, x217002 => if x3 = true then (some 3) else (if (x217002.length : Int) > 12 then (some 2) else ((impl_cellsFault.f k x217002).bind fun t219 => (some t219)))
def impl_PageFault.f (k : Nat) (a0_0 : Int) (a0_1 : Int) (l0_2 : List (S58)) : Option (Int) := (impl_within.f a0_0 0 7).bind fun t217 => (if t217 = true then ((impl_isLsn.f a0_1).bind fun t218 => (impl_PageFault.j0 k (!t218) a0_0 a0_1 l0_2)) else (impl_PageFault.j0 k true a0_0 a0_1 l0_2))

/-! ### laws_FnExactPageFault: function 6 -/
def laws_FnExactPageFault.f (k : Nat) (a0_0 : Int) (a0_1 : Int) (l0_2 : List (S100)) : Option (Bool) := (laws_szPage.f a0_0 a0_1 l0_2 1048576).bind fun t221 => (if t221 < 0 then (some true) else ((laws_toPage.f k a0_0 a0_1 l0_2).bind fun bt222 => ((spec_PageFault.f k bt222.1 bt222.2.1 bt222.2.2).bind fun t227 => ((laws_toPage.f k a0_0 a0_1 l0_2).bind fun bt228 => ((impl_PageFault.f k bt228.1 bt228.2.1 bt228.2.2).bind fun t234 => (if t234 = t227 then ((laws_toPage.f k a0_0 a0_1 l0_2).bind fun bt235 => ((laws_eqPage.f k bt228.1 bt228.2.1 bt228.2.2 bt235.1 bt235.2.1 bt235.2.2).bind fun t240 => (if t240 = true then (some true) else (some false)))) else (some false)))))))

/-! ### spec_l1Find: function 66 -/
def spec_l1Find.l0 : Nat → List (S58) → Int → Int → Option (Int)
  | 0, _, _, _ => none
  | k + 1, x0, x1, x5 => if x5 < (x0.length : Int) then (if 0 ≤ x5 then (if ((rd_T58 x0 x5).f0) = x1 then (some x5) else (spec_l1Find.l0 k x0 x1 (wrap64 (x5 + 1)))) else (none)) else (some (-1))
def spec_l1Find.f (k : Nat) (l0 : List (S58)) (a1 : Int) : Option (Int) := spec_l1Find.l0 k l0 a1 0

/-! ### spec_CellOf: function 29 -/
def spec_CellOf.f (k : Nat) (a0_0 : Int) (a0_1 : Int) (l0_2 : List (S58)) (a1 : Int) : Option (Int × Int) := (spec_PageFault.f k a0_0 a0_1 l0_2).bind fun t244 => (if t244 = 0 then ((spec_l1Find.f k l0_2 a1).bind fun t245 => (if t245 < 0 then (some (4, 0)) else (if 0 ≤ t245 then (if t245 < (l0_2.length : Int) then (some (0, (rd_T58 l0_2 t245).f1)) else (none)) else (none)))) else (some (t244, 0)))

/-! ### slices_BinarySearchFunc_impl_Cell: function 93 -/

/-! ### impl_place: function 70 -/
-- NEEDS Derived.Test.@N@Lb
def impl_place.c (key : Int) (x : S58) : Int := wrap64 (x.f0 - key)
def impl_place.f (l0 : List S58) (a1 : Int) : Option (Int × Bool) := some (Go.Proofs.Ytpcjefolhhckjaa.Lb.bs (impl_place.c a1) z58 l0, Go.Proofs.Ytpcjefolhhckjaa.Lb.bsHit (impl_place.c a1) z58 l0)

/-! ### impl_valueIn: function 67 -/
def impl_valueIn.f (l0 : List (S58)) (a1 : Int) : Option (Int × Int) := (impl_place.f l0 a1).bind fun bt248 => (if bt248.2 = true then (if 0 ≤ bt248.1 then (if bt248.1 < (l0.length : Int) then (some (0, (rd_T58 l0 bt248.1).f1)) else (none)) else (none)) else (some (4, 0)))

/-! ### impl_CellOf: function 30 -/
def impl_CellOf.f (k : Nat) (a0_0 : Int) (a0_1 : Int) (l0_2 : List (S58)) (a1 : Int) : Option (Int × Int) := (impl_PageFault.f k a0_0 a0_1 l0_2).bind fun t253 => (if t253 = 0 then ((impl_valueIn.f l0_2 a1).bind fun bt254 => (some (bt254.1, bt254.2))) else (some (t253, 0)))

/-! ### laws_eqIntResult: function 31 -/
def laws_eqIntResult.f (a0_0 : Int) (a0_1 : Int) (a1_0 : Int) (a1_1 : Int) : Option (Bool) := if a0_0 = a1_0 then (if a0_1 = a1_1 then (some true) else (some false)) else (some false)

/-! ### laws_FnExactCellOf: function 7 -/
def laws_FnExactCellOf.f (k : Nat) (a0_0 : Int) (a0_1 : Int) (l0_2 : List (S100)) (a1 : Int) : Option (Bool) := (laws_szPage.f a0_0 a0_1 l0_2 1048576).bind fun t259 => (if t259 < 0 then (some true) else ((laws_toPage.f k a0_0 a0_1 l0_2).bind fun bt260 => ((spec_CellOf.f k bt260.1 bt260.2.1 bt260.2.2 a1).bind fun bt265 => ((laws_toPage.f k a0_0 a0_1 l0_2).bind fun bt268 => ((impl_CellOf.f k bt268.1 bt268.2.1 bt268.2.2 a1).bind fun bt274 => ((laws_eqIntResult.f bt274.1 bt274.2 bt265.1 bt265.2).bind fun t277 => (if t277 = true then ((laws_toPage.f k a0_0 a0_1 l0_2).bind fun bt278 => ((laws_eqPage.f k bt268.1 bt268.2.1 bt268.2.2 bt278.1 bt278.2.1 bt278.2.2).bind fun t283 => (if t283 = true then (some true) else (some false)))) else (some false))))))))

/-! ### spec_l1Without: function 68 -/
def spec_l1Without.l0 : Nat → List (S58) → Int → List (S58) → Int → Option ((List (S58)))
  | 0, _, _, _, _ => none
  | k + 1, x0, x1, x5, x6 => if x6 < (x0.length : Int) then (if 0 ≤ x6 then (if ((rd_T58 x0 x6).f0) = x1 then (spec_l1Without.l0 k x0 x1 x5 (wrap64 (x6 + 1))) else (if x5.length < 8796093022208 then (spec_l1Without.l0 k x0 x1 (x5 ++ [(⟨(rd_T58 x0 x6).f0, (rd_T58 x0 x6).f1⟩ : S58)]) (wrap64 (x6 + 1))) else (none))) else (none)) else (some x5)
def spec_l1Without.f (k : Nat) (l0 : List (S58)) (a1 : Int) : Option ((List (S58))) := spec_l1Without.l0 k l0 a1 (([] : List (S58))) 0

/-! ### spec_DropCell: function 32 -/
def spec_DropCell.j0 : Nat → Int → Int → Bool → Int → Int → List (S58) → Option (Int × Int × Int × (List (S58)))
  | 0, _, _, _, _, _, _ => none
  | k + 1, x1, x2, x21, x293000, x293001, x293002 => if x21 = true then (some (3, 0, 0, ([] : List (S58)))) else ((spec_l1Find.f k x293002 x1).bind fun t297 => (if t297 < 0 then (some (4, 0, 0, ([] : List (S58)))) else ((spec_l1Without.f k x293002 x1).bind fun t298 => (some (0, x293000, x2, t298)))))
def spec_DropCell.f (k : Nat) (a0_0 : Int) (a0_1 : Int) (l0_2 : List (S58)) (a1 : Int) (a2 : Int) : Option (Int × Int × Int × (List (S58))) := (spec_PageFault.f k a0_0 a0_1 l0_2).bind fun t294 => (if t294 = 0 then ((spec_l1Key.f a1).bind fun t295 => (if t295 = true then ((spec_l1Lsn.f a2).bind fun t296 => (spec_DropCell.j0 k a1 a2 (!t296) a0_0 a0_1 l0_2)) else (spec_DropCell.j0 k a1 a2 true a0_0 a0_1 l0_2))) else (some (t294, 0, 0, ([] : List (S58)))))

/-! ### slices_Clone_impl_Cell: function 95 -/
def slices_Clone_impl_Cell.f (l0 : List (S58)) : Option ((List (S58))) := (some (([] : List (S58)) : List (S58))).bind fun y301 => (if y301.length + l0.length < 8796093022208 then (some (y301 ++ l0)) else (none))

/-! ### slices_Reverse_impl_Cell: function 112 -/
def slices_Reverse_impl_Cell.l0 : Nat → List (S58) → Int → Int → Option ((List (S58)))
  | 0, _, _, _ => none
  | k + 1, x0, x2, x3 => if x2 < x3 then (if 0 ≤ x3 then (if x3 < (x0.length : Int) then (if 0 ≤ x2 then (if x2 < (x0.length : Int) then (slices_Reverse_impl_Cell.l0 k ((x0.set (x2 : Int).toNat (⟨(rd_T58 x0 x3).f0, (rd_T58 x0 x3).f1⟩ : S58)).set (x3 : Int).toNat (⟨(rd_T58 x0 x2).f0, (rd_T58 x0 x2).f1⟩ : S58)) (wrap64 (x2 + 1)) (wrap64 (x3 - 1))) else (none)) else (none)) else (none)) else (none)) else (some x0)
def slices_Reverse_impl_Cell.f (k : Nat) (l0 : List (S58)) : Option ((List (S58))) := slices_Reverse_impl_Cell.l0 k l0 0 (wrap64 ((l0.length : Int) - 1))

/-! ### laws_lwBig: function 37 -/
def laws_lwBig.f (l0 : List Int) : Option (Bool) := some (decide ((l0.length : Int) > 1048576))

/-- A state of type 108 at block g of W; what its slices lead to came in by w0. -/
def IsS108 (w0 W : World) (g : Nat) (f0 : List Int) (f1 : Int) : Prop := ∃ A0 c0, W.heap[g]? = some (.cells #[.slice A0 f0.length c0, .int .i64 f1] 108 (0, 0)) ∧ w0.heap.size ≤ g ∧ Kd.C (Kd.int .u8) w0 A0 f0.length f0
theorem IsS108.grown {w0 W : World} {g : Nat} {f0 : List Int} {f1 : Int} {W1 : World} {row : Option Nat} (h : IsS108 w0 W g f0 f1) (hw : W.grownBy W1 row) (hne : some g ≠ row) : IsS108 w0 W1 g f0 f1 := by
  obtain ⟨A0, c0, hb, hg, hr0⟩ := h
  exact ⟨A0, c0, blk_grown hb hw hne, hg, hr0⟩
theorem IsS108.own_neN {w0 W : World} {g : Nat} {f0 : List Int} {f1 : Int} {α : Type} {d : Kd α} {e : Nat} {base : Nat} {ok : Nat → Prop} {v : Value} {xs : List α} (h : IsS108 w0 W g f0 f1) (ho : Kd.N d e W base ok v xs) (ht : e ≠ 108) : some g ≠ v.ownBlock := by
  obtain ⟨A0, c0, hb, hg, hr0⟩ := h
  exact Kd.N_ne ho hb ht
theorem IsS108.fresh {w0 W : World} {g : Nat} {f0 : List Int} {f1 : Int} (h : IsS108 w0 W g f0 f1) : ∀ k, W.heap.size ≤ k → k ≠ g := by
  obtain ⟨A0, c0, hb, hg, hr0⟩ := h
  exact Kd.freshB hb
theorem IsS108.kept {w0 W : World} {g : Nat} {f0 : List Int} {f1 : Int} {W1 : World} {S : Nat → Prop} (h : IsS108 w0 W g f0 f1) (hk : Kept W W1 S) (hne : ¬ S g) : IsS108 w0 W1 g f0 f1 := by
  obtain ⟨A0, c0, hb, hg, hr0⟩ := h
  exact ⟨A0, c0, blk_kept hb hk hne, hg, hr0⟩
theorem IsS108.below {w0 W : World} {g : Nat} {f0 : List Int} {f1 : Int} {W1 : World} (h : IsS108 w0 W g f0 f1) (hw : Below W.heap.size W W1) : IsS108 w0 W1 g f0 f1 := h.grown (grown_of_below hw none) (by simp)
theorem IsS108.alloc {w0 W : World} {g : Nat} {f0 : List Int} {f1 : Int} (h : IsS108 w0 W g f0 f1) (o : Obj) : IsS108 w0 (W.alloc o) g f0 f1 := h.below (below_alloc (Below.refl _ _) o)
theorem IsS108.drewN {w0 W : World} {g : Nat} {f0 : List Int} {f1 : Int} (h : IsS108 w0 W g f0 f1) (m : Nat) : IsS108 w0 (W.drewN m) g f0 f1 := h
theorem IsS108.drew {w0 W : World} {g : Nat} {f0 : List Int} {f1 : Int} (h : IsS108 w0 W g f0 f1) : IsS108 w0 W.drew g f0 f1 := h
theorem IsS108.at_ {w0 W : World} {g : Nat} {f0 : List Int} {f1 : Int} {w' : World} {m : Nat} (hq : W.drewN m = w') (h : IsS108 w0 W g f0 f1) : IsS108 w0 w' g f0 f1 := by subst hq; exact IsS108.drewN h m
theorem IsS108.apart {w0 W : World} {g : Nat} {f0 : List Int} {f1 : Int} {α : Type} {d : Kd α} {e : Nat} {base : Nat} {ok : Nat → Prop} {v : Value} {xs : List α} (h : IsS108 w0 W g f0 f1) (ho : d.R e W base ok v xs) (ht : ∀ q, q ∈ e :: d.E → q ≠ 108) : d.R e W base (fun k => ok k ∧ k ≠ g) v xs := by
  obtain ⟨A0, c0, hb, hg, hr0⟩ := h
  exact Kd.R_types ho hb ht
theorem IsS108.own_ne {w0 W : World} {g : Nat} {f0 : List Int} {f1 : Int} {α : Type} {d : Kd α} {e : Nat} {base : Nat} {ok : Nat → Prop} {v : Value} {xs : List α} (h : IsS108 w0 W g f0 f1) (ho : d.R e W base ok v xs) (ht : e ≠ 108) : some g ≠ v.ownBlock := by
  obtain ⟨A0, c0, hb, hg, hr0⟩ := h
  exact Kd.R_ne ho hb ht
theorem IsS108.apartQ {w0 W : World} {g : Nat} {f0 : List Int} {f1 : Int} {α : Type} {d : Kd α} {e : Nat} {base : Nat} {ok : Nat → Prop} {v : Value} {xs : List α} (h : IsS108 w0 W g f0 f1) (ho : d.Q e W base ok v xs) (ht : ∀ q, q ∈ e :: d.E → q ≠ 108) : d.Q e W base (fun k => ok k ∧ k ≠ g) v xs := by
  obtain ⟨A0, c0, hb, hg, hr0⟩ := h
  exact Kd.Q_types ho hb ht
theorem IsS108.own_neQ {w0 W : World} {g : Nat} {f0 : List Int} {f1 : Int} {α : Type} {d : Kd α} {e : Nat} {base : Nat} {ok : Nat → Prop} {v : Value} {xs : List α} (h : IsS108 w0 W g f0 f1) (ho : d.Q e W base ok v xs) (ht : e ≠ 108) : some g ≠ v.ownBlock := by
  obtain ⟨A0, c0, hb, hg, hr0⟩ := h
  exact Kd.Q_ne ho hb ht
theorem IsS108.apartS {w0 W : World} {g : Nat} {f0 : List Int} {f1 : Int} {α : Type} {d : Kd α} {e : Nat} {base : Nat} {ok : Nat → Prop} {v : Value} {xs : List α} (h : IsS108 w0 W g f0 f1) (ho : d.S e W base ok v xs) (ht : ∀ q, q ∈ e :: d.E → q ≠ 108) : d.S e W base (fun k => ok k ∧ k ≠ g) v xs := by
  obtain ⟨A0, c0, hb, hg, hr0⟩ := h
  exact Kd.S_types ho hb ht
theorem IsS108.own_neS {w0 W : World} {g : Nat} {f0 : List Int} {f1 : Int} {α : Type} {d : Kd α} {e : Nat} {base : Nat} {ok : Nat → Prop} {v : Value} {xs : List α} (h : IsS108 w0 W g f0 f1) (ho : d.S e W base ok v xs) (ht : e ≠ 108) : some g ≠ v.ownBlock := by
  obtain ⟨A0, c0, hb, hg, hr0⟩ := h
  exact Kd.S_ne ho hb ht
theorem IsS108.lt {w0 W : World} {g : Nat} {f0 : List Int} {f1 : Int} (h : IsS108 w0 W g f0 f1) : g < W.heap.size := by
  obtain ⟨A0, c0, hb, hg, hr0⟩ := h
  exact blk_lt hb
theorem IsS108.ge {w0 W : World} {g : Nat} {f0 : List Int} {f1 : Int} (h : IsS108 w0 W g f0 f1) : w0.heap.size ≤ g := by
  obtain ⟨A0, c0, hb, hg, hr0⟩ := h
  exact hg
theorem IsS108.ne_blk {w0 W : World} {g : Nat} {f0 : List Int} {f1 : Int} {a : Nat} {cs : Array Value} {t : TypeId} {fr : Nat × Nat} (h : IsS108 w0 W g f0 f1) (hb2 : W.heap[a]? = some (.cells cs t fr)) (ht : t ≠ 108) : g ≠ a := by
  obtain ⟨A0, c0, hb, hg, hr0⟩ := h
  rintro rfl
  rw [hb] at hb2
  injection hb2 with hb2
  injection hb2 with _ ht2
  exact ht ht2.symm
theorem IsS108.far {w0 W : World} {g : Nat} {f0 : List Int} {f1 : Int} {p : Addr} (h : IsS108 w0 W g f0 f1) (hne : g ≠ p.block) (u : Value) : IsS108 w0 (W.setCell p u) g f0 f1 := by
  obtain ⟨A0, c0, hb, hg, hr0⟩ := h
  exact ⟨A0, c0, blk_far hb hne u, hg, hr0⟩
theorem cellS108_0 {W : World} {g : Nat} {A0 : Option Addr} {c0 : Nat} {f0 : List Int} {f1 : Int} (h : W.heap[g]? = some (.cells #[.slice A0 f0.length c0, .int .i64 f1] 108 (0, 0))) : W.cell? ⟨g, 0, none⟩ = some (.slice A0 f0.length c0) := (blk_cell h 0).trans rfl
theorem cellS108_1 {W : World} {g : Nat} {A0 : Option Addr} {c0 : Nat} {f0 : List Int} {f1 : Int} (h : W.heap[g]? = some (.cells #[.slice A0 f0.length c0, .int .i64 f1] 108 (0, 0))) : W.cell? ⟨g, 1, none⟩ = some (.int .i64 f1) := (blk_cell h 1).trans rfl
theorem IsS108.set_1 {w0 W : World} {g : Nat} {f0 : List Int} {f1 : Int} (h : IsS108 w0 W g f0 f1) (x : Int) : IsS108 w0 (W.setCell ⟨g, 1, none⟩ (.int .i64 x)) g f0 x := by
  obtain ⟨A0, c0, hb, hg, hr0⟩ := h
  exact ⟨A0, c0, by simpa using blk_set hb 1 (.int .i64 x), hg, hr0⟩
theorem IsS108.new (w0 W : World) (A0 : Option Addr) (c0 : Nat) (f0 : List Int) (f1 : Int) (hB : Below w0.heap.size w0 W) (hr0 : Kd.C (Kd.int .u8) w0 A0 f0.length f0) : IsS108 w0 (W.alloc (.cells #[.slice A0 f0.length c0, .int .i64 f1] 108)) W.heap.size f0 f1 := ⟨A0, c0, by simpa using heap_alloc_new W _, hB.size, hr0⟩

/-! ### spec_l1Source: function 76 -/
def spec_l1Source.f (l0 : List Int) : Option (List Int × Int) := some (l0, 0)

/-! ### spec_l1Next: function 79 -/
def spec_l1Next.f (s0_0 : List Int) (s0_1 : Int) (a1 : Int) : Option (Int × Int) := if a1 < 1 then (some (0, wrap64 (s0_1 + 1))) else (if (s0_0.length : Int) = 0 then (if a1 = 0 then (none) else (some (Int.tmod (wrap64 ((wrap64 ((wrap64 (s0_1 + 1)) - 1)) * 7)) a1, wrap64 (s0_1 + 1)))) else (if 0 ≤ (Int.tmod (wrap64 ((wrap64 (s0_1 + 1)) - 1)) (s0_0.length : Int)) then (if (Int.tmod (wrap64 ((wrap64 (s0_1 + 1)) - 1)) (s0_0.length : Int)) < (s0_0.length : Int) then (if a1 > 200 then (if 0 ≤ (Int.tmod (wrap64 ((wrap64 ((wrap64 (s0_1 + 1)) - 1)) + 1)) (s0_0.length : Int)) then (if (Int.tmod (wrap64 ((wrap64 ((wrap64 (s0_1 + 1)) - 1)) + 1)) (s0_0.length : Int)) < (s0_0.length : Int) then (if a1 = 0 then (none) else (some (Int.tmod (wrap64 ((wrap64 ((wrap64 ((wrap64 ((wrap64 (rd s0_0 (Int.tmod (wrap64 ((wrap64 (s0_1 + 1)) - 1)) (s0_0.length : Int)))) + (wrap64 ((wrap64 (Int.tdiv (wrap64 ((wrap64 (s0_1 + 1)) - 1)) (s0_0.length : Int))) * 37)))) * 251)) + (wrap64 ((wrap64 (rd s0_0 (Int.tmod (wrap64 ((wrap64 ((wrap64 (s0_1 + 1)) - 1)) + 1)) (s0_0.length : Int)))) * 13)))) + (wrap64 ((wrap64 (s0_1 + 1)) - 1)))) a1, wrap64 (s0_1 + 1)))) else (none)) else (none)) else (if a1 = 0 then (none) else (some (Int.tmod (wrap64 ((wrap64 (rd s0_0 (Int.tmod (wrap64 ((wrap64 (s0_1 + 1)) - 1)) (s0_0.length : Int)))) + (wrap64 ((wrap64 (Int.tdiv (wrap64 ((wrap64 (s0_1 + 1)) - 1)) (s0_0.length : Int))) * 37)))) a1, wrap64 (s0_1 + 1))))) else (none)) else (none)))

/-! ### spec_l1Pick: function 78 -/
def spec_l1Pick.f (s0_0 : List Int) (s0_1 : Int) (l1 : List Int) : Option (Int × Int) := (spec_l1Next.f s0_0 s0_1 (l1.length : Int)).bind fun bt438 => (if 0 ≤ bt438.1 then (if bt438.1 < (l1.length : Int) then (some (rd l1 bt438.1, bt438.2)) else (none)) else (none))

/-! ### spec_l1Bytes: function 99 -/
def spec_l1Bytes.l0 : Nat → Int → List Int → Int → Option (List Int)
  | 0, _, _, _ => none
  | k + 1, x0, x5, x6 => if x6 ≥ 0 then (if 0 ≤ (IntKind.u64.wrap (wrap64 (8 * x6))) then (if x5.length < 140737488355328 then (spec_l1Bytes.l0 k x0 (x5 ++ [(shr .i64 x0 (IntKind.u64.wrap (wrap64 (8 * x6)))) % 256]) (wrap64 (x6 - 1))) else (none)) else (none)) else (some x5)
def spec_l1Bytes.f (k : Nat) (a0 : Int) (a1 : Int) : Option (List Int) := spec_l1Bytes.l0 k a0 (([] : List Int)) (wrap64 (a1 - 1))

/-! ### spec_l1Pack: function 80 -/
mutual
def spec_l1Pack.l0 : Nat → List Int → Int → Int → Int → List (S58) → Option (List Int)
  | 0, _, _, _, _, _ => none
  | k + 1, x3, x4, x475000, x475001, x475002 => if x4 < (x475002.length : Int) then (if 0 ≤ x4 then (if x3.length < 140737488355328 then ((some (x3 ++ [((rd_T58 x475002 x4).f0) % 256] : List Int)).bind fun y488 => ((spec_l1Bytes.f k ((rd_T58 x475002 x4).f1) 2).bind fun t492 => (if y488.length + t492.length < 140737488355328 then (spec_l1Pack.l0 k (y488 ++ t492) (wrap64 (x4 + 1)) x475000 x475001 x475002) else (none)))) else (none)) else (none)) else (spec_l1Pack.l1 k x3)
def spec_l1Pack.l1 : Nat → List Int → Option (List Int)
  | 0, _ => none
  | k + 1, x3 => if (x3.length : Int) < 46 then (if x3.length < 140737488355328 then (spec_l1Pack.l1 k (x3 ++ [0])) else (none)) else ((spec_SumBytes.f k x3).bind fun t501 => ((spec_l1Bytes.f k t501 2).bind fun t502 => (if x3.length + t502.length < 140737488355328 then (some (x3 ++ t502)) else (none))))
end
def spec_l1Pack.f (k : Nat) (a0_0 : Int) (a0_1 : Int) (l0_2 : List (S58)) : Option (List Int) := (some (([(a0_0) % 256] : List Int) : List Int)).bind fun y475 => ((spec_l1Bytes.f k a0_1 4).bind fun t478 => (if y475.length + t478.length < 140737488355328 then ((some (y475 ++ t478 : List Int)).bind fun y481 => (if y481.length < 140737488355328 then (spec_l1Pack.l0 k (y481 ++ [((l0_2.length : Int)) % 256]) 0 a0_0 a0_1 l0_2) else (none))) else (none)))

/-! ### spec_PackPage: function 39 -/
def spec_PackPage.f (k : Nat) (a0_0 : Int) (a0_1 : Int) (l0_2 : List (S58)) : Option (Int × List Int) := (spec_PageFault.f k a0_0 a0_1 l0_2).bind fun t510 => (if t510 = 0 then ((spec_l1Pack.f k a0_0 a0_1 l0_2).bind fun t511 => (some (0, t511))) else (some (t510, ([] : List Int))))

/-! ### impl_put: function 100 -/
def impl_put.l0 : Nat → List Int → Int → Int → Option (List Int)
  | 0, _, _, _ => none
  | k + 1, x0, x1, x7 => if x7 ≥ 0 then (if 0 ≤ (wrap64 (8 * x7)) then (if x0.length < 140737488355328 then (impl_put.l0 k (x0 ++ [(shr .i64 x1 (wrap64 (8 * x7))) % 256]) x1 (wrap64 (x7 - 1))) else (none)) else (none)) else (some x0)
def impl_put.f (k : Nat) (l0 : List Int) (a1 : Int) (a2 : Int) : Option (List Int) := impl_put.l0 k l0 a1 (wrap64 (a2 - 1))

/-! ### impl_Page_pack: function 81 -/
def impl_Page_pack.l0 : Nat → List Int → List (S58) → Int → Int → Option (List Int)
  | 0, _, _, _, _ => none
  | k + 1, x3, x17, x18, x19 => if x19 < x18 then (if 0 ≤ x19 then (if x19 < (x17.length : Int) then ((impl_put.f k x3 ((rd_T58 x17 x19).f0) 1).bind fun t529 => ((impl_put.f k t529 ((rd_T58 x17 x19).f1) 2).bind fun t532 => (impl_Page_pack.l0 k t532 x17 x18 (wrap64 (x19 + 1))))) else (none)) else (none)) else (if 0 ≤ (wrap64 (46 - (x3.length : Int))) then (if x3.length + (wrap64 (46 - (x3.length : Int)) : Int).toNat < 140737488355328 then ((some (x3 ++ List.replicate (wrap64 (46 - (x3.length : Int)) : Int).toNat 0 : List Int)).bind fun y535 => ((impl_SumBytes.f k y535).bind fun t538 => ((impl_put.f k y535 t538 2).bind fun t539 => (some t539)))) else (none)) else (none))
def impl_Page_pack.f (k : Nat) (a0_0 : Int) (a0_1 : Int) (l0_2 : List (S58)) : Option (List Int) := (impl_put.f k ([] : List Int) a0_0 1).bind fun t518 => ((impl_put.f k t518 a0_1 4).bind fun t521 => ((impl_put.f k t521 (l0_2.length : Int) 1).bind fun t524 => (impl_Page_pack.l0 k t524 l0_2 (l0_2.length : Int) 0)))

/-! ### impl_PackPage: function 40 -/
def impl_PackPage.f (k : Nat) (a0_0 : Int) (a0_1 : Int) (l0_2 : List (S58)) : Option (Int × List Int) := (impl_PageFault.f k a0_0 a0_1 l0_2).bind fun t544 => (if t544 = 0 then ((impl_Page_pack.f k a0_0 a0_1 l0_2).bind fun t545 => (some (0, t545))) else (some (t544, ([] : List Int))))

/-! ### laws_eqBytesResult: function 41 -/
def laws_eqBytesResult.f (k : Nat) (a0_0 : Int) (l0_1 : List Int) (a1_0 : Int) (l1_1 : List Int) : Option (Bool) := if a0_0 = a1_0 then ((laws_eqByteS.f k l0_1 l1_1).bind fun t550 => (if t550 = true then (some true) else (some false))) else (some false)

/-! ### laws_markByteS: function 46 -/
def laws_markByteS.l0 : Nat → List Int → Int → Int → Option (Int × List Int)
  | 0, _, _, _ => none
  | k + 1, x0, x1, x5 => if x5 < (x0.length : Int) then (if 0 ≤ x5 then (laws_markByteS.l0 k (x0.set (x5 : Int).toNat ((x1) % 256)) (wrap64 (x1 + 1)) (wrap64 (x5 + 1))) else (none)) else (some (x1, x0))
def laws_markByteS.f (k : Nat) (l0 : List Int) (a1 : Int) : Option (Int × List Int) := laws_markByteS.l0 k l0 a1 0

/-! ### laws_markBytesResult: function 42 -/
def laws_markBytesResult.f (k : Nat) (a0_0 : Int) (l0_1 : List Int) (a1 : Int) : Option (Int × List Int) := (laws_markByteS.f k l0_1 a1).bind fun bt553 => (some (bt553.1, bt553.2))

/-! ### laws_heldByteS: function 82 -/
def laws_heldByteS.l0 : Nat → List Int → Int → Int → Option (Int)
  | 0, _, _, _ => none
  | k + 1, x0, x1, x5 => if x5 < (x0.length : Int) then (if 0 ≤ x5 then (if (rd x0 x5) = ((x1) % 256) then (laws_heldByteS.l0 k x0 (wrap64 (x1 + 1)) (wrap64 (x5 + 1))) else (some (-1))) else (none)) else (some x1)
def laws_heldByteS.f (k : Nat) (l0 : List Int) (a1 : Int) : Option (Int) := laws_heldByteS.l0 k l0 a1 0

/-! ### laws_heldBytesResult: function 43 -/
def laws_heldBytesResult.f (k : Nat) (a0_0 : Int) (l0_1 : List Int) (a1 : Int) : Option (Int) := (laws_heldByteS.f k l0_1 a1).bind fun t557 => (if t557 < 0 then (some (-1)) else (some t557))

/-! ### laws_FnExactPackPage: function 11 -/
def laws_FnExactPackPage.j0 : Nat → Bool → Int → Int → List (S100) → Int → List Int → Int → List Int → Option (Bool)
  | 0, _, _, _, _, _, _, _, _ => none
  | k + 1, x42, x559000, x559001, x559002, x570000, x570001, x581000, x581001 => if x42 = true then (some false) else ((laws_markBytesResult.f k x581000 x581001 1).bind fun bt591 => ((laws_heldBytesResult.f k x581000 bt591.2 1).bind fun t593 => (if t593 < 0 then (some false) else (if t593 = bt591.1 then ((laws_toPage.f k x559000 x559001 x559002).bind fun bt594 => ((impl_PackPage.f k bt594.1 bt594.2.1 bt594.2.2).bind fun bt599 => ((laws_eqBytesResult.f k bt599.1 bt599.2 x570000 x570001).bind fun t604 => (if t604 = true then ((laws_heldBytesResult.f k x581000 bt591.2 1).bind fun t605 => (if t605 < 0 then (some false) else (if t605 = bt591.1 then (some true) else (some false)))) else (some false))))) else (some false)))))
def laws_FnExactPackPage.f (k : Nat) (a0_0 : Int) (a0_1 : Int) (l0_2 : List (S100)) : Option (Bool) := (laws_szPage.f a0_0 a0_1 l0_2 1048576).bind fun t559 => (if t559 < 0 then (some true) else ((laws_toPage.f k a0_0 a0_1 l0_2).bind fun bt560 => ((spec_PackPage.f k bt560.1 bt560.2.1 bt560.2.2).bind fun bt565 => ((laws_toPage.f k a0_0 a0_1 l0_2).bind fun bt570 => ((impl_PackPage.f k bt570.1 bt570.2.1 bt570.2.2).bind fun bt576 => ((laws_eqBytesResult.f k bt576.1 bt576.2 bt565.1 bt565.2).bind fun t581 => (if t581 = true then ((laws_toPage.f k a0_0 a0_1 l0_2).bind fun bt582 => ((laws_eqPage.f k bt570.1 bt570.2.1 bt570.2.2 bt582.1 bt582.2.1 bt582.2.2).bind fun t587 => (if t587 = true then ((laws_markPage.f k bt570.1 bt570.2.1 bt570.2.2 1).bind fun bt588 => (if bt588.1 < 0 then (laws_FnExactPackPage.j0 k true a0_0 a0_1 l0_2 bt565.1 bt565.2 bt576.1 bt576.2) else ((laws_eqBytesResult.f k bt576.1 bt576.2 bt565.1 bt565.2).bind fun t590 => (laws_FnExactPackPage.j0 k (!t590) a0_0 a0_1 l0_2 bt565.1 bt565.2 bt576.1 bt576.2)))) else (some false)))) else (some false))))))))

/-! ### spec_l1Take: function 83 -/
def spec_l1Take.l0 : Nat → List Int → Int → Int → Int → Int → Option (Int)
  | 0, _, _, _, _, _ => none
  | k + 1, x0, x1, x2, x7, x8 => if x8 < x2 then (if 0 ≤ (wrap64 (x1 + x8)) then (if (wrap64 (x1 + x8)) < (x0.length : Int) then (spec_l1Take.l0 k x0 x1 x2 (wrap64 ((wrap64 (x7 * 256)) + (wrap64 (rd x0 (wrap64 (x1 + x8)))))) (wrap64 (x8 + 1))) else (none)) else (none)) else (some x7)
def spec_l1Take.f (k : Nat) (l0 : List Int) (a1 : Int) (a2 : Int) : Option (Int) := spec_l1Take.l0 k l0 a1 a2 0 0

/-! ### spec_UnpackPage: function 44 -/
mutual
def spec_UnpackPage.j1 : Nat → List Int → Int → Int → List (S58) → Option (Int × Int × Int × (List (S58)))
  | 0, _, _, _, _ => none
  | k + 1, x0, x614000, x614001, x614002 => (spec_PageFault.f k x614000 x614001 x614002).bind fun t620 => (if t620 = 0 then ((spec_l1Pack.f k x614000 x614001 x614002).bind fun t621 => (if (strOfNums t621).toList = (strOfNums x0).toList then (some (0, x614000, x614001, x614002)) else (some (5, 0, 0, ([] : List (S58)))))) else (some (5, 0, 0, ([] : List (S58)))))
def spec_UnpackPage.l0 : Nat → List Int → Int → Int → Int → List (S58) → Option (Int × Int × Int × (List (S58)))
  | 0, _, _, _, _, _ => none
  | k + 1, x0, x4, x614000, x614001, x614002 => if 5 < (x0.length : Int) then (if x4 < (wrap64 (rd x0 5)) then (if (wrap64 (9 + (wrap64 (3 * x4)))) < 46 then (if 0 ≤ (wrap64 (6 + (wrap64 (3 * x4)))) then (if (wrap64 (6 + (wrap64 (3 * x4)))) < (x0.length : Int) then ((spec_l1Take.f k x0 (wrap64 (7 + (wrap64 (3 * x4)))) 2).bind fun t616 => (if x614002.length < 8796093022208 then (spec_UnpackPage.l0 k x0 (wrap64 (x4 + 1)) x614000 x614001 (x614002 ++ [(⟨wrap64 (rd x0 (wrap64 (6 + (wrap64 (3 * x4))))), t616⟩ : S58)])) else (none))) else (none)) else (none)) else (spec_UnpackPage.j1 k x0 x614000 x614001 x614002)) else (spec_UnpackPage.j1 k x0 x614000 x614001 x614002)) else (none)
end
def spec_UnpackPage.f (k : Nat) (l0 : List Int) : Option (Int × Int × Int × (List (S58))) := if (l0.length : Int) = 48 then ((spec_l1Take.f k l0 46 2).bind fun t608 => (if 46 ≤ (l0.length : Int) then ((spec_SumBytes.f k (l0.take 46)).bind fun t610 => (if t608 = t610 then (if 0 < (l0.length : Int) then ((spec_l1Take.f k l0 1 4).bind fun t612 => (spec_UnpackPage.l0 k l0 0 (wrap64 (rd l0 0)) t612 ([] : List (S58)))) else (none)) else (some (6, 0, 0, ([] : List (S58)))))) else (none))) else (some (1, 0, 0, ([] : List (S58))))

/-! ### impl_take: function 84 -/
def impl_take.l0 : Nat → Int → List Int → Int → Int → Option (Int)
  | 0, _, _, _, _ => none
  | k + 1, x3, x6, x7, x8 => if x8 < x7 then (if 0 ≤ x8 then (if x8 < (x6.length : Int) then (impl_take.l0 k (Go.bits .or .i64 (wrap64 (x3 * 256)) (wrap64 (rd x6 x8))) x6 x7 (wrap64 (x8 + 1))) else (none)) else (none)) else (some x3)
def impl_take.f (k : Nat) (l0 : List Int) : Option (Int) := impl_take.l0 k 0 l0 (l0.length : Int) 0

/-! ### slices_Equal_byte: function 85 -/
def slices_Equal_byte.l0 : Nat → List Int → List Int → Int → Int → Option (Bool)
  | 0, _, _, _, _ => none
  | k + 1, x0, x1, x12, x13 => if x13 < x12 then (if 0 ≤ x13 then (if x13 < (x0.length : Int) then (if x13 < (x1.length : Int) then (if (rd x0 x13) = (rd x1 x13) then (slices_Equal_byte.l0 k x0 x1 x12 (wrap64 (x13 + 1))) else (some false)) else (none)) else (none)) else (none)) else (some true)
def slices_Equal_byte.f (k : Nat) (l0 : List Int) (l1 : List Int) : Option (Bool) := if (l0.length : Int) = (l1.length : Int) then (slices_Equal_byte.l0 k l0 l1 (l0.length : Int) 0) else (some false)

/-! ### impl_UnpackPage: function 45 -/
def impl_UnpackPage.l0 : Nat → List Int → Int → Int → Int → Int → Int → List (S58) → Option (Int × Int × Int × (List (S58)))
  | 0, _, _, _, _, _, _, _ => none
  | k + 1, x0, x3, x32, x33, x637000, x637001, x637002 => if x33 < x32 then (if (wrap64 ((wrap64 (6 + (wrap64 (3 * x33)))) + 3)) > x3 then (some (5, 0, 0, ([] : List (S58)))) else (if 0 ≤ (wrap64 (6 + (wrap64 (3 * x33)))) then (if (wrap64 (6 + (wrap64 (3 * x33)))) ≤ (wrap64 ((wrap64 (6 + (wrap64 (3 * x33)))) + 1)) then (if (wrap64 ((wrap64 (6 + (wrap64 (3 * x33)))) + 1)) ≤ (x0.length : Int) then ((impl_take.f k ((x0.take ((wrap64 ((wrap64 (6 + (wrap64 (3 * x33)))) + 1)) : Int).toNat).drop ((wrap64 (6 + (wrap64 (3 * x33)))) : Int).toNat)).bind fun t639 => (if 0 ≤ (wrap64 ((wrap64 (6 + (wrap64 (3 * x33)))) + 1)) then (if (wrap64 ((wrap64 (6 + (wrap64 (3 * x33)))) + 1)) ≤ (wrap64 ((wrap64 (6 + (wrap64 (3 * x33)))) + 3)) then (if (wrap64 ((wrap64 (6 + (wrap64 (3 * x33)))) + 3)) ≤ (x0.length : Int) then ((impl_take.f k ((x0.take ((wrap64 ((wrap64 (6 + (wrap64 (3 * x33)))) + 3)) : Int).toNat).drop ((wrap64 ((wrap64 (6 + (wrap64 (3 * x33)))) + 1)) : Int).toNat)).bind fun t641 => (if x637002.length < 8796093022208 then (impl_UnpackPage.l0 k x0 x3 x32 (wrap64 (x33 + 1)) x637000 x637001 (x637002 ++ [(⟨t639, t641⟩ : S58)])) else (none))) else (none)) else (none)) else (none))) else (none)) else (none)) else (none))) else ((impl_PageFault.f k x637000 x637001 x637002).bind fun t645 => (if t645 = 0 then ((impl_Page_pack.f k x637000 x637001 x637002).bind fun t646 => ((slices_Equal_byte.f k t646 x0).bind fun t649 => (if t649 = true then (some (0, x637000, x637001, x637002)) else (some (5, 0, 0, ([] : List (S58))))))) else (some (5, 0, 0, ([] : List (S58))))))
def impl_UnpackPage.f (k : Nat) (l0 : List Int) : Option (Int × Int × Int × (List (S58))) := if (l0.length : Int) = 48 then (if 46 ≤ (l0.length : Int) then ((impl_take.f k (l0.drop 46)).bind fun t629 => ((impl_SumBytes.f k (l0.take 46)).bind fun t631 => (if t629 = t631 then (if 1 ≤ (l0.length : Int) then ((impl_take.f k (l0.take 1)).bind fun t633 => (if 5 ≤ (l0.length : Int) then ((impl_take.f k ((l0.take 5).drop 1)).bind fun t635 => (if 5 < (l0.length : Int) then (impl_UnpackPage.l0 k l0 46 (mn (wrap64 (rd l0 5)) 13) 0 t633 t635 ([] : List (S58))) else (none))) else (none))) else (none)) else (some (6, 0, 0, ([] : List (S58))))))) else (none)) else (some (1, 0, 0, ([] : List (S58))))

/-! ### laws_FnExactUnpackPage: function 12 -/
def laws_FnExactUnpackPage.j0 : Nat → List Int → Bool → Int → Int → Int → List (S58) → Int → Int → Int → List (S58) → Option (Bool)
  | 0, _, _, _, _, _, _, _, _, _, _ => none
  | k + 1, x0, x39, x660000, x660001, x660002, x660003, x670000, x670001, x670002, x670003 => if x39 = true then (some false) else ((laws_markPageResult.f k x670000 x670001 x670002 x670003 1).bind fun bt678 => ((laws_heldPageResult.f k x670000 x670001 x670002 bt678.2 1).bind fun t680 => (if t680 < 0 then (some false) else (if t680 = bt678.1 then ((laws_toByteS.f k x0).bind fun t681 => ((impl_UnpackPage.f k t681).bind fun bt684 => ((laws_eqPageResult.f k bt684.1 bt684.2.1 bt684.2.2.1 bt684.2.2.2 x660000 x660001 x660002 x660003).bind fun t691 => (if t691 = true then ((laws_heldPageResult.f k x670000 x670001 x670002 bt678.2 1).bind fun t692 => (if t692 < 0 then (some false) else (if t692 = bt678.1 then (some true) else (some false)))) else (some false))))) else (some false)))))
def laws_FnExactUnpackPage.f (k : Nat) (l0 : List Int) : Option (Bool) := if (l0.length : Int) > 1048576 then (some true) else ((laws_toByteS.f k l0).bind fun t650 => ((spec_UnpackPage.f k t650).bind fun bt653 => ((laws_toByteS.f k l0).bind fun t660 => ((impl_UnpackPage.f k t660).bind fun bt663 => ((laws_eqPageResult.f k bt663.1 bt663.2.1 bt663.2.2.1 bt663.2.2.2 bt653.1 bt653.2.1 bt653.2.2.1 bt653.2.2.2).bind fun t670 => (if t670 = true then ((laws_toByteS.f k l0).bind fun t671 => ((laws_eqByteS.f k t660 t671).bind fun t674 => (if t674 = true then ((laws_markByteS.f k t660 1).bind fun bt675 => (if bt675.1 < 0 then (laws_FnExactUnpackPage.j0 k l0 true bt653.1 bt653.2.1 bt653.2.2.1 bt653.2.2.2 bt663.1 bt663.2.1 bt663.2.2.1 bt663.2.2.2) else ((laws_eqPageResult.f k bt663.1 bt663.2.1 bt663.2.2.1 bt663.2.2.2 bt653.1 bt653.2.1 bt653.2.2.1 bt653.2.2.2).bind fun t677 => (laws_FnExactUnpackPage.j0 k l0 (!t677) bt653.1 bt653.2.1 bt653.2.2.1 bt653.2.2.2 bt663.1 bt663.2.1 bt663.2.2.1 bt663.2.2.2)))) else (some false)))) else (some false)))))))

/-! ### laws_lwCells: function 49 -/
def laws_lwCells.l0 : Nat → List (S58) → List (S58) → Int → Option (Bool)
  | 0, _, _, _ => none
  | k + 1, x0, x1, x5 => if x5 < (x0.length : Int) then (if 0 ≤ x5 then (if x5 < (x1.length : Int) then (if (!(((rd_T58 x0 x5).f0) == ((rd_T58 x1 x5).f0)) || (!(((rd_T58 x0 x5).f1) == ((rd_T58 x1 x5).f1)))) = true then (some false) else (laws_lwCells.l0 k x0 x1 (wrap64 (x5 + 1)))) else (none)) else (none)) else (some true)
def laws_lwCells.f (k : Nat) (l0 : List (S58)) (l1 : List (S58)) : Option (Bool) := if (l0.length : Int) = (l1.length : Int) then (laws_lwCells.l0 k l0 l1 0) else (some false)

/-! ### spec_NewDisk: function 50 -/
def spec_NewDisk.l0 : Nat → Int → Int → Int → List (List Int) → Option (Int × (List (List Int)) × (List (S121)))
  | 0, _, _, _, _ => none
  | k + 1, x0, x4, x706000, x706001 => if x4 < x0 then ((spec_l1Pack.f k x4 0 ([] : List (S58))).bind fun t706 => (if x706001.length < 5864062014805 then (spec_NewDisk.l0 k x0 (wrap64 (x4 + 1)) x706000 (x706001 ++ [t706])) else (none))) else (some (x706000, x706001, ([] : List (S121))))
def spec_NewDisk.f (k : Nat) (a0 : Int) : Option (Int × (List (List Int)) × (List (S121))) := (spec_l1In.f a0 1 8).bind fun t704 => (if t704 = true then (spec_NewDisk.l0 k a0 0 0 ([] : List (List Int))) else (some (3, ([] : List (List Int)), ([] : List (S121)))))

/-! ### impl_NewDisk: function 51 -/
def impl_NewDisk.l0 : Nat → Int → Int → List (List Int) → Option (Int × (List (List Int)) × (List (S121)))
  | 0, _, _, _ => none
  | k + 1, x10, x11, x715000 => if x11 < x10 then ((impl_Page_pack.f k x11 0 ([] : List (S58))).bind fun t715 => (if x715000.length < 5864062014805 then (impl_NewDisk.l0 k x10 (wrap64 (x11 + 1)) (x715000 ++ [t715])) else (none))) else (some (0, x715000, ([] : List (S121))))
def impl_NewDisk.f (k : Nat) (a0 : Int) : Option (Int × (List (List Int)) × (List (S121))) := (impl_within.f a0 1 8).bind fun t713 => (if t713 = true then (impl_NewDisk.l0 k a0 0 ([] : List (List Int))) else (some (3, ([] : List (List Int)), ([] : List (S121)))))

/-! ### laws_eqByteSS: function 101 -/
def laws_eqByteSS.l0 : Nat → List (List Int) → List (List Int) → Int → Option (Bool)
  | 0, _, _, _ => none
  | k + 1, x0, x1, x5 => if x5 < (x0.length : Int) then (if 0 ≤ x5 then (if x5 < (x1.length : Int) then ((laws_eqByteS.f k (rd_L1 x0 x5) (rd_L1 x1 x5)).bind fun t723 => (if t723 = true then (laws_eqByteSS.l0 k x0 x1 (wrap64 (x5 + 1))) else (some false))) else (none)) else (none)) else (some true)
def laws_eqByteSS.f (k : Nat) (l0 : List (List Int)) (l1 : List (List Int)) : Option (Bool) := if (l0.length : Int) = (l1.length : Int) then (laws_eqByteSS.l0 k l0 l1 0) else (some false)

/-! ### laws_eqLoose: function 110 -/
def laws_eqLoose.f (k : Nat) (a0_0 : Int) (a0_1 : Int) (l0_2 : List Int) (a1_0 : Int) (a1_1 : Int) (l1_2 : List Int) : Option (Bool) := if a0_0 = a1_0 then (if a0_1 = a1_1 then ((laws_eqByteS.f k l0_2 l1_2).bind fun t726 => (if t726 = true then (some true) else (some false))) else (some false)) else (some false)

/-! ### laws_eqLooseS: function 102 -/
def laws_eqLooseS.l0 : Nat → List (S121) → List (S121) → Int → Option (Bool)
  | 0, _, _, _ => none
  | k + 1, x0, x1, x5 => if x5 < (x0.length : Int) then (if 0 ≤ x5 then (if x5 < (x1.length : Int) then ((laws_eqLoose.f k ((rd_T121 x0 x5).f0) ((rd_T121 x0 x5).f1) ((rd_T121 x0 x5).f2) ((rd_T121 x1 x5).f0) ((rd_T121 x1 x5).f1) ((rd_T121 x1 x5).f2)).bind fun t729 => (if t729 = true then (laws_eqLooseS.l0 k x0 x1 (wrap64 (x5 + 1))) else (some false))) else (none)) else (none)) else (some true)
def laws_eqLooseS.f (k : Nat) (l0 : List (S121)) (l1 : List (S121)) : Option (Bool) := if (l0.length : Int) = (l1.length : Int) then (laws_eqLooseS.l0 k l0 l1 0) else (some false)

/-! ### laws_eqDisk: function 87 -/
def laws_eqDisk.f (k : Nat) (l0_0 : List (List Int)) (l0_1 : List (S121)) (l1_0 : List (List Int)) (l1_1 : List (S121)) : Option (Bool) := (laws_eqByteSS.f k l0_0 l1_0).bind fun t732 => (if t732 = true then ((laws_eqLooseS.f k l0_1 l1_1).bind fun t733 => (if t733 = true then (some true) else (some false))) else (some false))

/-! ### laws_eqDiskResult: function 52 -/
def laws_eqDiskResult.f (k : Nat) (a0_0 : Int) (l0_1 : List (List Int)) (l0_2 : List (S121)) (a1_0 : Int) (l1_1 : List (List Int)) (l1_2 : List (S121)) : Option (Bool) := if a0_0 = a1_0 then ((laws_eqDisk.f k l0_1 l0_2 l1_1 l1_2).bind fun t736 => (if t736 = true then (some true) else (some false))) else (some false)

/-! ### laws_heldByteSS: function 105 -/
def laws_heldByteSS.l0 : Nat → List (List Int) → Int → Int → Option (Int)
  | 0, _, _, _ => none
  | k + 1, x0, x1, x5 => if x5 < (x0.length : Int) then (if 0 ≤ x5 then ((laws_heldByteS.f k (rd_L1 x0 x5) x1).bind fun t741 => (if t741 < 0 then (some (-1)) else (laws_heldByteSS.l0 k x0 t741 (wrap64 (x5 + 1))))) else (none)) else (some x1)
def laws_heldByteSS.f (k : Nat) (l0 : List (List Int)) (a1 : Int) : Option (Int) := laws_heldByteSS.l0 k l0 a1 0

/-! ### laws_heldLooseS: function 106 -/
def laws_heldLooseS.l0 : Nat → List (S121) → Int → Int → Option (Int)
  | 0, _, _, _ => none
  | k + 1, x0, x1, x5 => if x5 < (x0.length : Int) then (if 0 ≤ x5 then (if ((rd_T121 x0 x5).f0) = x1 then (if ((rd_T121 x0 x5).f1) = (wrap64 (x1 + 1)) then ((laws_heldByteS.f k ((rd_T121 x0 x5).f2) (wrap64 ((wrap64 (x1 + 1)) + 1))).bind fun t745 => (if t745 < 0 then (some (-1)) else (laws_heldLooseS.l0 k x0 t745 (wrap64 (x5 + 1))))) else (some (-1))) else (some (-1))) else (none)) else (some x1)
def laws_heldLooseS.f (k : Nat) (l0 : List (S121)) (a1 : Int) : Option (Int) := laws_heldLooseS.l0 k l0 a1 0

/-! ### laws_heldDisk: function 89 -/
def laws_heldDisk.f (k : Nat) (l0_0 : List (List Int)) (l0_1 : List (S121)) (a1 : Int) : Option (Int) := (laws_heldByteSS.f k l0_0 a1).bind fun t747 => (if t747 < 0 then (some (-1)) else ((laws_heldLooseS.f k l0_1 t747).bind fun t748 => (if t748 < 0 then (some (-1)) else (some t748))))

/-! ### laws_heldDiskResult: function 54 -/
def laws_heldDiskResult.f (k : Nat) (a0_0 : Int) (l0_1 : List (List Int)) (l0_2 : List (S121)) (a1 : Int) : Option (Int) := (laws_heldDisk.f k l0_1 l0_2 a1).bind fun t750 => (if t750 < 0 then (some (-1)) else (some t750))

end Go.Proofs.Ytpcjefolhhckjaa.P
