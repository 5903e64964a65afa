-- Printed by this session's own program over the kit's print (wip/tools/mp.py). Not trusted: Lean checks it.
import Derived.Test.YtpdfpbnlablhoaaP0
import Derived.Test.YtpdfpbnlablhoaaLb
namespace Go.Proofs.Ytpdfpbnlablhoaa.P
open Go.RowKit Go.Proofs.YtpdfpbnlablhoaaW.PrintWords Go.Proofs.YtpdfpbnlablhoaaW.PrintLast Go.Proofs.YtpdfpbnlablhoaaW.PrintMore
attribute [local go_sem] max2_int min2_int max_two min_two max_three min_three max_four min_four   -- for this text's walks alone
set_option linter.unusedVariables false
set_option linter.unusedSimpArgs false

/-! ### laws_szCellS: function 35 -/
def laws_szCellS.f (l0 : List (S92)) (a1 : Int) : Option (Int) := if (wrap64 (a1 - (l0.length : Int))) < 0 then (some (-1)) else (some (wrap64 (a1 - (l0.length : Int))))

/-! ### laws_szPage: function 8 -/
def laws_szPage.f (a0_0 : Int) (a0_1 : Int) (l0_2 : List (S92)) (a1 : Int) : Option (Int) := (laws_szCellS.f l0_2 a1).bind fun t102 => (if t102 < 0 then (some (-1)) else (some t102))

/-! ### spec_l1In: function 67 -/
def spec_l1In.f (a0 : Int) (a1 : Int) (a2 : Int) : Option (Bool) := if a0 ≥ a1 then (some (decide (a0 ≤ a2))) else (some false)

/-! ### spec_l1Key: function 36 -/
def spec_l1Key.f (a0 : Int) : Option (Bool) := (spec_l1In.f a0 0 31).bind fun t103 => (some t103)

/-! ### spec_l1Lsn: function 37 -/
def spec_l1Lsn.f (a0 : Int) : Option (Bool) := (spec_l1In.f a0 0 1000000).bind fun t104 => (some t104)

/-! ### spec_l1Value: function 48 -/
def spec_l1Value.f (a0 : Int) : Option (Bool) := (spec_l1In.f a0 0 9999).bind fun t105 => (some t105)

/-! ### spec_PageFault: function 28 -/
mutual
def spec_PageFault.j0 : Nat → Bool → Int → Int → List (S49) → Option (Int)
  | 0, _, _, _, _ => none
  | k + 1, x13, x107000, x107001, x107002 => if x13 = true then (some 3) else (if (x107002.length : Int) > 12 then (some 2) else (spec_PageFault.l0 k 0 x107000 x107001 x107002))
def spec_PageFault.l0 : Nat → Int → Int → Int → List (S49) → Option (Int)
  | 0, _, _, _, _ => none
  | k + 1, x3, x107000, x107001, x107002 => if x3 < (x107002.length : Int) then (if 0 ≤ x3 then ((spec_l1Key.f ((rd_T49 x107002 x3).f0)).bind fun t110 => (if t110 = true then ((spec_l1Value.f ((rd_T49 x107002 x3).f1)).bind fun t112 => (spec_PageFault.j2 k x3 (!t112) x107000 x107001 x107002)) else (spec_PageFault.j2 k x3 true x107000 x107001 x107002))) else (none)) else (some 0)
def spec_PageFault.j2 : Nat → Int → Bool → Int → Int → List (S49) → Option (Int)
  | 0, _, _, _, _, _ => none
  | k + 1, x3, x42, x107000, x107001, x107002 => if x42 = true then (some 3) else (if x3 > 0 then (if 0 ≤ x3 then (if x3 < (x107002.length : Int) then (if 0 ≤ (wrap64 (x3 - 1)) then (if (wrap64 (x3 - 1)) < (x107002.length : Int) then (if ((rd_T49 x107002 x3).f0) ≤ ((rd_T49 x107002 (wrap64 (x3 - 1))).f0) then (some 1) else (spec_PageFault.l0 k (wrap64 (x3 + 1)) x107000 x107001 x107002)) else (none)) else (none)) else (none)) else (none)) else (spec_PageFault.l0 k (wrap64 (x3 + 1)) x107000 x107001 x107002))
end
def spec_PageFault.f (k : Nat) (a0_0 : Int) (a0_1 : Int) (l0_2 : List (S49)) : Option (Int) := (spec_l1In.f a0_0 0 7).bind fun t107 => (if t107 = true then ((spec_l1Lsn.f a0_1).bind fun t108 => (spec_PageFault.j0 k (!t108) a0_0 a0_1 l0_2)) else (spec_PageFault.j0 k true a0_0 a0_1 l0_2))

/-! ### spec_l1Find: function 38 -/
def spec_l1Find.l0 : Nat → List (S49) → Int → Int → Option (Int)
  | 0, _, _, _ => none
  | k + 1, x0, x1, x5 => if x5 < (x0.length : Int) then (if 0 ≤ x5 then (if ((rd_T49 x0 x5).f0) = x1 then (some x5) else (spec_l1Find.l0 k x0 x1 (wrap64 (x5 + 1)))) else (none)) else (some (-1))
def spec_l1Find.f (k : Nat) (l0 : List (S49)) (a1 : Int) : Option (Int) := spec_l1Find.l0 k l0 a1 0

/-! ### spec_l1Without: function 39 -/
def spec_l1Without.l0 : Nat → List (S49) → Int → List (S49) → Int → Option ((List (S49)))
  | 0, _, _, _, _ => none
  | k + 1, x0, x1, x5, x6 => if x6 < (x0.length : Int) then (if 0 ≤ x6 then (if ((rd_T49 x0 x6).f0) = x1 then (spec_l1Without.l0 k x0 x1 x5 (wrap64 (x6 + 1))) else (if x5.length < 8796093022208 then (spec_l1Without.l0 k x0 x1 (x5 ++ [(⟨(rd_T49 x0 x6).f0, (rd_T49 x0 x6).f1⟩ : S49)]) (wrap64 (x6 + 1))) else (none))) else (none)) else (some x5)
def spec_l1Without.f (k : Nat) (l0 : List (S49)) (a1 : Int) : Option ((List (S49))) := spec_l1Without.l0 k l0 a1 (([] : List (S49))) 0

/-! ### spec_DropCell: function 9 -/
def spec_DropCell.j0 : Nat → Int → Int → Bool → Int → Int → List (S49) → Option (Int × Int × Int × (List (S49)))
  | 0, _, _, _, _, _, _ => none
  | k + 1, x1, x2, x21, x125000, x125001, x125002 => if x21 = true then (some (3, 0, 0, ([] : List (S49)))) else ((spec_l1Find.f k x125002 x1).bind fun t129 => (if t129 < 0 then (some (4, 0, 0, ([] : List (S49)))) else ((spec_l1Without.f k x125002 x1).bind fun t130 => (some (0, x125000, x2, t130)))))
def spec_DropCell.f (k : Nat) (a0_0 : Int) (a0_1 : Int) (l0_2 : List (S49)) (a1 : Int) (a2 : Int) : Option (Int × Int × Int × (List (S49))) := (spec_PageFault.f k a0_0 a0_1 l0_2).bind fun t126 => (if t126 = 0 then ((spec_l1Key.f a1).bind fun t127 => (if t127 = true then ((spec_l1Lsn.f a2).bind fun t128 => (spec_DropCell.j0 k a1 a2 (!t128) a0_0 a0_1 l0_2)) else (spec_DropCell.j0 k a1 a2 true a0_0 a0_1 l0_2))) else (some (t126, 0, 0, ([] : List (S49)))))

/-! ### laws_toCell: function 71 -/
def laws_toCell.f (a0_0 : Int) (a0_1 : Int) : Option (Int × Int) := some (a0_0, a0_1)

/-! ### laws_toCellS: function 40 -/
def laws_toCellS.l0 : Nat → List (S92) → List (S49) → Int → Option ((List (S49)))
  | 0, _, _, _ => none
  | k + 1, x0, x3, x4 => if x4 < (x0.length : Int) then (if 0 ≤ x4 then ((laws_toCell.f ((rd_T92 x0 x4).f0) ((rd_T92 x0 x4).f1)).bind fun bt140 => (if x4 < (x3.length : Int) then (laws_toCellS.l0 k x0 (x3.set (x4 : Int).toNat (⟨bt140.1, bt140.2⟩ : S49)) (wrap64 (x4 + 1))) else (none))) else (none)) else (some x3)
def laws_toCellS.f (k : Nat) (l0 : List (S92)) : Option ((List (S49))) := if 0 ≤ (l0.length : Int) then (if ((l0.length : Int) : Int).toNat ≤ 17592186044416 then (laws_toCellS.l0 k l0 (List.replicate ((l0.length : Int) : Int).toNat z49) 0) else (none)) else (none)

/-! ### laws_toPage: function 10 -/
def laws_toPage.f (k : Nat) (a0_0 : Int) (a0_1 : Int) (l0_2 : List (S92)) : Option (Int × Int × (List (S49))) := (laws_toCellS.f k l0_2).bind fun t146 => (some (a0_0, a0_1, t146))

/-! ### impl_within: function 56 -/
def impl_within.f (a0 : Int) (a1 : Int) (a2 : Int) : Option (Bool) := if a1 ≤ a0 then (some (decide (a0 ≤ a2))) else (some false)

/-! ### impl_isLsn: function 42 -/
def impl_isLsn.f (a0 : Int) : Option (Bool) := (impl_within.f a0 0 1000000).bind fun t149 => (some t149)

/-! ### impl_isKey: function 41 -/
def impl_isKey.f (a0 : Int) : Option (Bool) := (impl_within.f a0 0 31).bind fun t150 => (some t150)

/-! ### impl_isValue: function 50 -/
def impl_isValue.f (a0 : Int) : Option (Bool) := (impl_within.f a0 0 9999).bind fun t151 => (some t151)

/-! ### impl_cellsFault: function 57 -/
mutual
def impl_cellsFault.l0 : Nat → List (S49) → List (S49) → Int → Int → Option (Int)
  | 0, _, _, _, _ => none
  | k + 1, x0, x5, x6, x7 => if x7 < x6 then (if 0 ≤ x7 then (if x7 < (x5.length : Int) then ((impl_isKey.f ((rd_T49 x5 x7).f0)).bind fun t154 => (if t154 = true then ((impl_isValue.f ((rd_T49 x5 x7).f1)).bind fun t155 => (impl_cellsFault.j1 k x0 x7 x5 x6 x7 (!t155) ((rd_T49 x5 x7).f0) ((rd_T49 x5 x7).f1))) else (impl_cellsFault.j1 k x0 x7 x5 x6 x7 true ((rd_T49 x5 x7).f0) ((rd_T49 x5 x7).f1)))) else (none)) else (none)) else (some 0)
def impl_cellsFault.j1 : Nat → List (S49) → Int → List (S49) → Int → Int → Bool → Int → Int → Option (Int)
  | 0, _, _, _, _, _, _, _, _ => none
  | k + 1, x0, x3, x5, x6, x7, x12, x154000, x154001 => if x12 = true then (some 3) else (if x3 > 0 then (if 0 ≤ (wrap64 (x3 - 1)) then (if (wrap64 (x3 - 1)) < (x0.length : Int) then (if x154000 ≤ ((rd_T49 x0 (wrap64 (x3 - 1))).f0) then (some 1) else (impl_cellsFault.l0 k x0 x5 x6 (wrap64 (x7 + 1)))) else (none)) else (none)) else (impl_cellsFault.l0 k x0 x5 x6 (wrap64 (x7 + 1))))
end
def impl_cellsFault.f (k : Nat) (l0 : List (S49)) : Option (Int) := impl_cellsFault.l0 k l0 l0 (l0.length : Int) 0

/-! ### impl_PageFault: function 21 -/
def impl_PageFault.j0 : Nat → Bool → Int → Int → List (S49) → Option (Int)
  | 0, _, _, _, _ => none
  | k + 1, x3, x158000, x158001, x158002 => if x3 = true then (some 3) else (if (x158002.length : Int) > 12 then (some 2) else ((impl_cellsFault.f k x158002).bind fun t160 => (some t160)))
def impl_PageFault.f (k : Nat) (a0_0 : Int) (a0_1 : Int) (l0_2 : List (S49)) : Option (Int) := (impl_within.f a0_0 0 7).bind fun t158 => (if t158 = true then ((impl_isLsn.f a0_1).bind fun t159 => (impl_PageFault.j0 k (!t159) a0_0 a0_1 l0_2)) else (impl_PageFault.j0 k true a0_0 a0_1 l0_2))

/-! ### slices_BinarySearchFunc_impl_Cell: function 72 -/

/-! ### impl_place: function 43 -/
-- NEEDS Derived.Test.@N@Lb
def impl_place.c (key : Int) (x : S49) : Int := wrap64 (x.f0 - key)
def impl_place.f (l0 : List S49) (a1 : Int) : Option (Int × Bool) := some (Go.Proofs.Ytpdfpbnlablhoaa.Lb.bs (impl_place.c a1) z49 l0, Go.Proofs.Ytpdfpbnlablhoaa.Lb.bsHit (impl_place.c a1) z49 l0)

/-! ### slices_Clone_impl_Cell: function 74 -/
def slices_Clone_impl_Cell.f (l0 : List (S49)) : Option ((List (S49))) := (some (([] : List (S49)) : List (S49))).bind fun y161 => (if y161.length + l0.length < 8796093022208 then (some (y161 ++ l0)) else (none))

/-! ### slices_Delete_impl_Cell: function 75 -/
def slices_Delete_impl_Cell.f (l0 : List (S49)) (a1 : Int) (a2 : Int) : Option (List (S49)) := if 0 ≤ a1 then (if a1 < a2 then (if a2 ≤ (l0.length : Int) then some (l0.take a1.toNat ++ l0.drop a2.toNat) else none) else none) else none

/-! ### impl_without: function 44 -/
def impl_without.f (l0 : List (S49)) (a1 : Int) : Option ((List (S49))) := (slices_Clone_impl_Cell.f l0).bind fun t167 => ((impl_place.f t167 a1).bind fun bt170 => (if bt170.2 = true then ((slices_Delete_impl_Cell.f t167 bt170.1 (wrap64 (bt170.1 + 1))).bind fun t172 => (some t172)) else (some t167)))

/-! ### impl_DropCell: function 11 -/
def impl_DropCell.j0 : Nat → Int → Int → Bool → Int → Int → List (S49) → Option (Int × Int × Int × (List (S49)))
  | 0, _, _, _, _, _, _ => none
  | k + 1, x1, x2, x23, x176000, x176001, x176002 => if x23 = true then (some (3, 0, 0, ([] : List (S49)))) else ((impl_place.f x176002 x1).bind fun bt180 => (if bt180.2 = true then ((impl_without.f x176002 x1).bind fun t182 => (some (0, x176000, x2, t182))) else (some (4, 0, 0, ([] : List (S49))))))
def impl_DropCell.f (k : Nat) (a0_0 : Int) (a0_1 : Int) (l0_2 : List (S49)) (a1 : Int) (a2 : Int) : Option (Int × Int × Int × (List (S49))) := (impl_PageFault.f k a0_0 a0_1 l0_2).bind fun t177 => (if t177 = 0 then ((impl_isKey.f a1).bind fun t178 => (if t178 = true then ((impl_isLsn.f a2).bind fun t179 => (impl_DropCell.j0 k a1 a2 (!t179) a0_0 a0_1 l0_2)) else (impl_DropCell.j0 k a1 a2 true a0_0 a0_1 l0_2))) else (some (t177, 0, 0, ([] : List (S49)))))

/-! ### laws_eqCell: function 76 -/
def laws_eqCell.f (a0_0 : Int) (a0_1 : Int) (a1_0 : Int) (a1_1 : Int) : Option (Bool) := if a0_0 = a1_0 then (if a0_1 = a1_1 then (some true) else (some false)) else (some false)

/-! ### laws_eqCellS: function 45 -/
def laws_eqCellS.l0 : Nat → List (S49) → List (S49) → Int → Option (Bool)
  | 0, _, _, _ => none
  | k + 1, x0, x1, x5 => if x5 < (x0.length : Int) then (if 0 ≤ x5 then (if x5 < (x1.length : Int) then ((laws_eqCell.f ((rd_T49 x0 x5).f0) ((rd_T49 x0 x5).f1) ((rd_T49 x1 x5).f0) ((rd_T49 x1 x5).f1)).bind fun t189 => (if t189 = true then (laws_eqCellS.l0 k x0 x1 (wrap64 (x5 + 1))) else (some false))) else (none)) else (none)) else (some true)
def laws_eqCellS.f (k : Nat) (l0 : List (S49)) (l1 : List (S49)) : Option (Bool) := if (l0.length : Int) = (l1.length : Int) then (laws_eqCellS.l0 k l0 l1 0) else (some false)

/-! ### laws_eqPage: function 13 -/
def laws_eqPage.f (k : Nat) (a0_0 : Int) (a0_1 : Int) (l0_2 : List (S49)) (a1_0 : Int) (a1_1 : Int) (l1_2 : List (S49)) : Option (Bool) := if a0_0 = a1_0 then (if a0_1 = a1_1 then ((laws_eqCellS.f k l0_2 l1_2).bind fun t192 => (if t192 = true then (some true) else (some false))) else (some false)) else (some false)

/-! ### laws_eqPageResult: function 12 -/
def laws_eqPageResult.f (k : Nat) (a0_0 : Int) (a0_1 : Int) (a0_2 : Int) (l0_3 : List (S49)) (a1_0 : Int) (a1_1 : Int) (a1_2 : Int) (l1_3 : List (S49)) : Option (Bool) := if a0_0 = a1_0 then ((laws_eqPage.f k a0_1 a0_2 l0_3 a1_1 a1_2 l1_3).bind fun t195 => (if t195 = true then (some true) else (some false))) else (some false)

/-! ### laws_markCellS: function 46 -/
def laws_markCellS.l0 : Nat → List (S49) → Int → Int → Option (Int × (List (S49)))
  | 0, _, _, _ => none
  | k + 1, x0, x1, x5 => if x5 < (x0.length : Int) then (if 0 ≤ x5 then ((some (x0.set (x5 : Int).toNat (⟨x1, (rd_T49 x0 x5).f1⟩ : S49) : List (S49))).bind fun y196 => (laws_markCellS.l0 k (y196.set (x5 : Int).toNat (⟨(rd_T49 y196 x5).f0, wrap64 (x1 + 1)⟩ : S49)) (wrap64 ((wrap64 (x1 + 1)) + 1)) (wrap64 (x5 + 1)))) else (none)) else (some (x1, x0))
def laws_markCellS.f (k : Nat) (l0 : List (S49)) (a1 : Int) : Option (Int × (List (S49))) := laws_markCellS.l0 k l0 a1 0

/-! ### laws_markPage: function 14 -/
def laws_markPage.f (k : Nat) (a0_0 : Int) (a0_1 : Int) (l0_2 : List (S49)) (a1 : Int) : Option (Int × (List (S49))) := (laws_markCellS.f k l0_2 a1).bind fun bt199 => (some (bt199.1, bt199.2))

/-! ### laws_markPageResult: function 15 -/
def laws_markPageResult.f (k : Nat) (a0_0 : Int) (a0_1 : Int) (a0_2 : Int) (l0_3 : List (S49)) (a1 : Int) : Option (Int × (List (S49))) := (laws_markPage.f k a0_1 a0_2 l0_3 a1).bind fun bt202 => (some (bt202.1, bt202.2))

/-! ### laws_heldCellS: function 77 -/
def laws_heldCellS.l0 : Nat → List (S49) → Int → Int → Option (Int)
  | 0, _, _, _ => none
  | k + 1, x0, x1, x5 => if x5 < (x0.length : Int) then (if 0 ≤ x5 then (if ((rd_T49 x0 x5).f0) = x1 then (if ((rd_T49 x0 x5).f1) = (wrap64 (x1 + 1)) then (laws_heldCellS.l0 k x0 (wrap64 ((wrap64 (x1 + 1)) + 1)) (wrap64 (x5 + 1))) else (some (-1))) else (some (-1))) else (none)) else (some x1)
def laws_heldCellS.f (k : Nat) (l0 : List (S49)) (a1 : Int) : Option (Int) := laws_heldCellS.l0 k l0 a1 0

/-! ### laws_heldPage: function 47 -/
def laws_heldPage.f (k : Nat) (a0_0 : Int) (a0_1 : Int) (l0_2 : List (S49)) (a1 : Int) : Option (Int) := (laws_heldCellS.f k l0_2 a1).bind fun t207 => (if t207 < 0 then (some (-1)) else (some t207))

/-! ### laws_heldPageResult: function 16 -/
def laws_heldPageResult.f (k : Nat) (a0_0 : Int) (a0_1 : Int) (a0_2 : Int) (l0_3 : List (S49)) (a1 : Int) : Option (Int) := (laws_heldPage.f k a0_1 a0_2 l0_3 a1).bind fun t209 => (if t209 < 0 then (some (-1)) else (some t209))

/-! ### laws_FnExactDropCell: function 3 -/
def laws_FnExactDropCell.j0 : Nat → Int → Int → Bool → Int → Int → List (S92) → Int → Int → Int → List (S49) → Int → Int → Int → List (S49) → Option (Bool)
  | 0, _, _, _, _, _, _, _, _, _, _, _, _, _, _ => none
  | k + 1, x1, x2, x50, x211000, x211001, x211002, x224000, x224001, x224002, x224003, x237000, x237001, x237002, x237003 => if x50 = true then (some false) else ((laws_markPageResult.f k x237000 x237001 x237002 x237003 1).bind fun bt247 => ((laws_heldPageResult.f k x237000 x237001 x237002 bt247.2 1).bind fun t249 => (if t249 < 0 then (some false) else (if t249 = bt247.1 then ((laws_toPage.f k x211000 x211001 x211002).bind fun bt250 => ((impl_DropCell.f k bt250.1 bt250.2.1 bt250.2.2 x1 x2).bind fun bt255 => ((laws_eqPageResult.f k bt255.1 bt255.2.1 bt255.2.2.1 bt255.2.2.2 x224000 x224001 x224002 x224003).bind fun t262 => (if t262 = true then ((laws_heldPageResult.f k x237000 x237001 x237002 bt247.2 1).bind fun t263 => (if t263 < 0 then (some false) else (if t263 = bt247.1 then (some true) else (some false)))) else (some false))))) else (some false)))))
def laws_FnExactDropCell.f (k : Nat) (a0_0 : Int) (a0_1 : Int) (l0_2 : List (S92)) (a1 : Int) (a2 : Int) : Option (Bool) := (laws_szPage.f a0_0 a0_1 l0_2 1048576).bind fun t211 => (if t211 < 0 then (some true) else ((laws_toPage.f k a0_0 a0_1 l0_2).bind fun bt212 => ((spec_DropCell.f k bt212.1 bt212.2.1 bt212.2.2 a1 a2).bind fun bt217 => ((laws_toPage.f k a0_0 a0_1 l0_2).bind fun bt224 => ((impl_DropCell.f k bt224.1 bt224.2.1 bt224.2.2 a1 a2).bind fun bt230 => ((laws_eqPageResult.f k bt230.1 bt230.2.1 bt230.2.2.1 bt230.2.2.2 bt217.1 bt217.2.1 bt217.2.2.1 bt217.2.2.2).bind fun t237 => (if t237 = true then ((laws_toPage.f k a0_0 a0_1 l0_2).bind fun bt238 => ((laws_eqPage.f k bt224.1 bt224.2.1 bt224.2.2 bt238.1 bt238.2.1 bt238.2.2).bind fun t243 => (if t243 = true then ((laws_markPage.f k bt224.1 bt224.2.1 bt224.2.2 1).bind fun bt244 => (if bt244.1 < 0 then (laws_FnExactDropCell.j0 k a1 a2 true a0_0 a0_1 l0_2 bt217.1 bt217.2.1 bt217.2.2.1 bt217.2.2.2 bt230.1 bt230.2.1 bt230.2.2.1 bt230.2.2.2) else ((laws_eqPageResult.f k bt230.1 bt230.2.1 bt230.2.2.1 bt230.2.2.2 bt217.1 bt217.2.1 bt217.2.2.1 bt217.2.2.2).bind fun t246 => (laws_FnExactDropCell.j0 k a1 a2 (!t246) a0_0 a0_1 l0_2 bt217.1 bt217.2.1 bt217.2.2.1 bt217.2.2.2 bt230.1 bt230.2.1 bt230.2.2.1 bt230.2.2.2)))) else (some false)))) else (some false))))))))

/-! ### spec_l1With: function 49 -/
def spec_l1With.l0 : Nat → Int → Int → List (S49) → Int → Option ((List (S49)))
  | 0, _, _, _, _ => none
  | k + 1, x1, x2, x7, x8 => if x8 < (x7.length : Int) then (if 0 ≤ x8 then (if ((rd_T49 x7 x8).f0) < x1 then (spec_l1With.l0 k x1 x2 x7 (wrap64 (x8 + 1))) else ((some (([] : List (S49)) : List (S49))).bind fun y268 => (if x8 ≤ (x7.length : Int) then ((some (x7.take (x8 : Int).toNat : List (S49))).bind fun y271 => (if y268.length + y271.length < 8796093022208 then ((some (y268 ++ y271 : List (S49))).bind fun y275 => ((some (([(⟨x1, x2⟩ : S49)] : List (S49)) : List (S49))).bind fun y278 => (if y275.length + y278.length < 8796093022208 then ((some (y275 ++ y278 : List (S49))).bind fun y281 => ((some (x7.drop (x8 : Int).toNat : List (S49))).bind fun y284 => (if y281.length + y284.length < 8796093022208 then (some (y281 ++ y284)) else (none)))) else (none)))) else (none))) else (none)))) else (none)) else ((some (([] : List (S49)) : List (S49))).bind fun y291 => (if 0 ≤ x8 then (if x8 ≤ (x7.length : Int) then ((some (x7.take (x8 : Int).toNat : List (S49))).bind fun y294 => (if y291.length + y294.length < 8796093022208 then ((some (y291 ++ y294 : List (S49))).bind fun y298 => ((some (([(⟨x1, x2⟩ : S49)] : List (S49)) : List (S49))).bind fun y301 => (if y298.length + y301.length < 8796093022208 then ((some (y298 ++ y301 : List (S49))).bind fun y304 => ((some (x7.drop (x8 : Int).toNat : List (S49))).bind fun y307 => (if y304.length + y307.length < 8796093022208 then (some (y304 ++ y307)) else (none)))) else (none)))) else (none))) else (none)) else (none)))
def spec_l1With.f (k : Nat) (l0 : List (S49)) (a1 : Int) (a2 : Int) : Option ((List (S49))) := (spec_l1Without.f k l0 a1).bind fun t264 => (spec_l1With.l0 k a1 a2 t264 0)

/-! ### spec_SetCell: function 17 -/
def spec_SetCell.j0 : Nat → Int → Int → Int → Bool → Int → Int → List (S49) → Option (Int × Int × Int × (List (S49)))
  | 0, _, _, _, _, _, _, _ => none
  | k + 1, x1, x2, x3, x28, x315000, x315001, x315002 => if x28 = true then (some (3, 0, 0, ([] : List (S49)))) else (if (x315002.length : Int) ≥ 12 then ((spec_l1Find.f k x315002 x1).bind fun t320 => (if t320 < 0 then (some (2, 0, 0, ([] : List (S49)))) else ((spec_l1With.f k x315002 x1 x2).bind fun t321 => (some (0, x315000, x3, t321))))) else ((spec_l1With.f k x315002 x1 x2).bind fun t324 => (some (0, x315000, x3, t324))))
def spec_SetCell.f (k : Nat) (a0_0 : Int) (a0_1 : Int) (l0_2 : List (S49)) (a1 : Int) (a2 : Int) (a3 : Int) : Option (Int × Int × Int × (List (S49))) := (spec_PageFault.f k a0_0 a0_1 l0_2).bind fun t316 => (if t316 = 0 then ((spec_l1Key.f a1).bind fun t317 => (if t317 = true then ((spec_l1Value.f a2).bind fun t318 => (if t318 = true then ((spec_l1Lsn.f a3).bind fun t319 => (spec_SetCell.j0 k a1 a2 a3 (!t319) a0_0 a0_1 l0_2)) else (spec_SetCell.j0 k a1 a2 a3 true a0_0 a0_1 l0_2))) else (spec_SetCell.j0 k a1 a2 a3 true a0_0 a0_1 l0_2))) else (some (t316, 0, 0, ([] : List (S49)))))

/-! ### slices_Insert_impl_Cell: function 78 -/
def slices_Insert_impl_Cell.f0 (l0 : List (S49)) (a1 : Int) (l2 : List (S49)) : Option ((List (S49))) := if l0.length + l2.length < 8796093022208 then (some (l0 ++ l2)) else (none)
def slices_Insert_impl_Cell.f (l0 : List (S49)) (a1 : Int) (l2 : List (S49)) : Option (List (S49)) := if 0 ≤ a1 then (if a1 ≤ (l0.length : Int) then (if 0 < l2.length then (if l0.length + l2.length < 8796093022208 then some (l0.take a1.toNat ++ (l2 ++ l0.drop a1.toNat)) else none) else none) else none) else none

/-! ### impl_withCell: function 51 -/
def impl_withCell.f (l0 : List (S49)) (a1 : Int) (a2 : Int) : Option ((List (S49))) := (slices_Clone_impl_Cell.f l0).bind fun t330 => ((impl_place.f t330 a1).bind fun bt333 => (if bt333.2 = true then (if 0 ≤ bt333.1 then (if bt333.1 < (t330.length : Int) then (some (t330.set (bt333.1 : Int).toNat (⟨(rd_T49 t330 bt333.1).f0, a2⟩ : S49))) else (none)) else (none)) else ((slices_Insert_impl_Cell.f t330 bt333.1 (([(⟨a1, a2⟩ : S49)] : List (S49)))).bind fun t339 => (some t339))))

/-! ### impl_SetCell: function 18 -/
def impl_SetCell.j0 : Nat → Int → Int → Int → Bool → Int → Int → List (S49) → Option (Int × Int × Int × (List (S49)))
  | 0, _, _, _, _, _, _, _ => none
  | k + 1, x1, x2, x3, x30, x343000, x343001, x343002 => if x30 = true then (some (3, 0, 0, ([] : List (S49)))) else ((impl_place.f x343002 x1).bind fun bt348 => (if bt348.2 = true then ((impl_withCell.f x343002 x1 x2).bind fun t350 => (some (0, x343000, x3, t350))) else (if (x343002.length : Int) = 12 then (some (2, 0, 0, ([] : List (S49)))) else ((impl_withCell.f x343002 x1 x2).bind fun t353 => (some (0, x343000, x3, t353))))))
def impl_SetCell.f (k : Nat) (a0_0 : Int) (a0_1 : Int) (l0_2 : List (S49)) (a1 : Int) (a2 : Int) (a3 : Int) : Option (Int × Int × Int × (List (S49))) := (impl_PageFault.f k a0_0 a0_1 l0_2).bind fun t344 => (if t344 = 0 then ((impl_isKey.f a1).bind fun t345 => (if t345 = true then ((impl_isValue.f a2).bind fun t346 => (if t346 = true then ((impl_isLsn.f a3).bind fun t347 => (impl_SetCell.j0 k a1 a2 a3 (!t347) a0_0 a0_1 l0_2)) else (impl_SetCell.j0 k a1 a2 a3 true a0_0 a0_1 l0_2))) else (impl_SetCell.j0 k a1 a2 a3 true a0_0 a0_1 l0_2))) else (some (t344, 0, 0, ([] : List (S49)))))

/-! ### laws_FnExactSetCell: function 4 -/
def laws_FnExactSetCell.j0 : Nat → Int → Int → Int → Bool → Int → Int → List (S92) → Int → Int → Int → List (S49) → Int → Int → Int → List (S49) → Option (Bool)
  | 0, _, _, _, _, _, _, _, _, _, _, _, _, _, _, _ => none
  | k + 1, x1, x2, x3, x54, x357000, x357001, x357002, x370000, x370001, x370002, x370003, x383000, x383001, x383002, x383003 => if x54 = true then (some false) else ((laws_markPageResult.f k x383000 x383001 x383002 x383003 1).bind fun bt393 => ((laws_heldPageResult.f k x383000 x383001 x383002 bt393.2 1).bind fun t395 => (if t395 < 0 then (some false) else (if t395 = bt393.1 then ((laws_toPage.f k x357000 x357001 x357002).bind fun bt396 => ((impl_SetCell.f k bt396.1 bt396.2.1 bt396.2.2 x1 x2 x3).bind fun bt401 => ((laws_eqPageResult.f k bt401.1 bt401.2.1 bt401.2.2.1 bt401.2.2.2 x370000 x370001 x370002 x370003).bind fun t408 => (if t408 = true then ((laws_heldPageResult.f k x383000 x383001 x383002 bt393.2 1).bind fun t409 => (if t409 < 0 then (some false) else (if t409 = bt393.1 then (some true) else (some false)))) else (some false))))) else (some false)))))
def laws_FnExactSetCell.f (k : Nat) (a0_0 : Int) (a0_1 : Int) (l0_2 : List (S92)) (a1 : Int) (a2 : Int) (a3 : Int) : Option (Bool) := (laws_szPage.f a0_0 a0_1 l0_2 1048576).bind fun t357 => (if t357 < 0 then (some true) else ((laws_toPage.f k a0_0 a0_1 l0_2).bind fun bt358 => ((spec_SetCell.f k bt358.1 bt358.2.1 bt358.2.2 a1 a2 a3).bind fun bt363 => ((laws_toPage.f k a0_0 a0_1 l0_2).bind fun bt370 => ((impl_SetCell.f k bt370.1 bt370.2.1 bt370.2.2 a1 a2 a3).bind fun bt376 => ((laws_eqPageResult.f k bt376.1 bt376.2.1 bt376.2.2.1 bt376.2.2.2 bt363.1 bt363.2.1 bt363.2.2.1 bt363.2.2.2).bind fun t383 => (if t383 = true then ((laws_toPage.f k a0_0 a0_1 l0_2).bind fun bt384 => ((laws_eqPage.f k bt370.1 bt370.2.1 bt370.2.2 bt384.1 bt384.2.1 bt384.2.2).bind fun t389 => (if t389 = true then ((laws_markPage.f k bt370.1 bt370.2.1 bt370.2.2 1).bind fun bt390 => (if bt390.1 < 0 then (laws_FnExactSetCell.j0 k a1 a2 a3 true a0_0 a0_1 l0_2 bt363.1 bt363.2.1 bt363.2.2.1 bt363.2.2.2 bt376.1 bt376.2.1 bt376.2.2.1 bt376.2.2.2) else ((laws_eqPageResult.f k bt376.1 bt376.2.1 bt376.2.2.1 bt376.2.2.2 bt363.1 bt363.2.1 bt363.2.2.1 bt363.2.2.2).bind fun t392 => (laws_FnExactSetCell.j0 k a1 a2 a3 (!t392) a0_0 a0_1 l0_2 bt363.1 bt363.2.1 bt363.2.2.1 bt363.2.2.2 bt376.1 bt376.2.1 bt376.2.2.1 bt376.2.2.2)))) else (some false)))) else (some false))))))))

/-! ### laws_lwBig: function 19 -/
def laws_lwBig.f (l0 : List Int) : Option (Bool) := some (decide ((l0.length : Int) > 1048576))

/-- A state of type 100 at block g of W; what its slices lead to came in by w0. -/
def IsS100 (w0 W : World) (g : Nat) (f0 : List Int) (f1 : Int) : Prop := ∃ A0 c0, W.heap[g]? = some (.cells #[.slice A0 f0.length c0, .int .i64 f1] 100 (0, 0)) ∧ w0.heap.size ≤ g ∧ Kd.C (Kd.int .u8) w0 A0 f0.length f0
theorem IsS100.grown {w0 W : World} {g : Nat} {f0 : List Int} {f1 : Int} {W1 : World} {row : Option Nat} (h : IsS100 w0 W g f0 f1) (hw : W.grownBy W1 row) (hne : some g ≠ row) : IsS100 w0 W1 g f0 f1 := by
  obtain ⟨A0, c0, hb, hg, hr0⟩ := h
  exact ⟨A0, c0, blk_grown hb hw hne, hg, hr0⟩
theorem IsS100.own_neN {w0 W : World} {g : Nat} {f0 : List Int} {f1 : Int} {α : Type} {d : Kd α} {e : Nat} {base : Nat} {ok : Nat → Prop} {v : Value} {xs : List α} (h : IsS100 w0 W g f0 f1) (ho : Kd.N d e W base ok v xs) (ht : e ≠ 100) : some g ≠ v.ownBlock := by
  obtain ⟨A0, c0, hb, hg, hr0⟩ := h
  exact Kd.N_ne ho hb ht
theorem IsS100.fresh {w0 W : World} {g : Nat} {f0 : List Int} {f1 : Int} (h : IsS100 w0 W g f0 f1) : ∀ k, W.heap.size ≤ k → k ≠ g := by
  obtain ⟨A0, c0, hb, hg, hr0⟩ := h
  exact Kd.freshB hb
theorem IsS100.kept {w0 W : World} {g : Nat} {f0 : List Int} {f1 : Int} {W1 : World} {S : Nat → Prop} (h : IsS100 w0 W g f0 f1) (hk : Kept W W1 S) (hne : ¬ S g) : IsS100 w0 W1 g f0 f1 := by
  obtain ⟨A0, c0, hb, hg, hr0⟩ := h
  exact ⟨A0, c0, blk_kept hb hk hne, hg, hr0⟩
theorem IsS100.below {w0 W : World} {g : Nat} {f0 : List Int} {f1 : Int} {W1 : World} (h : IsS100 w0 W g f0 f1) (hw : Below W.heap.size W W1) : IsS100 w0 W1 g f0 f1 := h.grown (grown_of_below hw none) (by simp)
theorem IsS100.alloc {w0 W : World} {g : Nat} {f0 : List Int} {f1 : Int} (h : IsS100 w0 W g f0 f1) (o : Obj) : IsS100 w0 (W.alloc o) g f0 f1 := h.below (below_alloc (Below.refl _ _) o)
theorem IsS100.drewN {w0 W : World} {g : Nat} {f0 : List Int} {f1 : Int} (h : IsS100 w0 W g f0 f1) (m : Nat) : IsS100 w0 (W.drewN m) g f0 f1 := h
theorem IsS100.drew {w0 W : World} {g : Nat} {f0 : List Int} {f1 : Int} (h : IsS100 w0 W g f0 f1) : IsS100 w0 W.drew g f0 f1 := h
theorem IsS100.at_ {w0 W : World} {g : Nat} {f0 : List Int} {f1 : Int} {w' : World} {m : Nat} (hq : W.drewN m = w') (h : IsS100 w0 W g f0 f1) : IsS100 w0 w' g f0 f1 := by subst hq; exact IsS100.drewN h m
theorem IsS100.apart {w0 W : World} {g : Nat} {f0 : List Int} {f1 : Int} {α : Type} {d : Kd α} {e : Nat} {base : Nat} {ok : Nat → Prop} {v : Value} {xs : List α} (h : IsS100 w0 W g f0 f1) (ho : d.R e W base ok v xs) (ht : ∀ q, q ∈ e :: d.E → q ≠ 100) : d.R e W base (fun k => ok k ∧ k ≠ g) v xs := by
  obtain ⟨A0, c0, hb, hg, hr0⟩ := h
  exact Kd.R_types ho hb ht
theorem IsS100.own_ne {w0 W : World} {g : Nat} {f0 : List Int} {f1 : Int} {α : Type} {d : Kd α} {e : Nat} {base : Nat} {ok : Nat → Prop} {v : Value} {xs : List α} (h : IsS100 w0 W g f0 f1) (ho : d.R e W base ok v xs) (ht : e ≠ 100) : some g ≠ v.ownBlock := by
  obtain ⟨A0, c0, hb, hg, hr0⟩ := h
  exact Kd.R_ne ho hb ht
theorem IsS100.apartQ {w0 W : World} {g : Nat} {f0 : List Int} {f1 : Int} {α : Type} {d : Kd α} {e : Nat} {base : Nat} {ok : Nat → Prop} {v : Value} {xs : List α} (h : IsS100 w0 W g f0 f1) (ho : d.Q e W base ok v xs) (ht : ∀ q, q ∈ e :: d.E → q ≠ 100) : d.Q e W base (fun k => ok k ∧ k ≠ g) v xs := by
  obtain ⟨A0, c0, hb, hg, hr0⟩ := h
  exact Kd.Q_types ho hb ht
theorem IsS100.own_neQ {w0 W : World} {g : Nat} {f0 : List Int} {f1 : Int} {α : Type} {d : Kd α} {e : Nat} {base : Nat} {ok : Nat → Prop} {v : Value} {xs : List α} (h : IsS100 w0 W g f0 f1) (ho : d.Q e W base ok v xs) (ht : e ≠ 100) : some g ≠ v.ownBlock := by
  obtain ⟨A0, c0, hb, hg, hr0⟩ := h
  exact Kd.Q_ne ho hb ht
theorem IsS100.apartS {w0 W : World} {g : Nat} {f0 : List Int} {f1 : Int} {α : Type} {d : Kd α} {e : Nat} {base : Nat} {ok : Nat → Prop} {v : Value} {xs : List α} (h : IsS100 w0 W g f0 f1) (ho : d.S e W base ok v xs) (ht : ∀ q, q ∈ e :: d.E → q ≠ 100) : d.S e W base (fun k => ok k ∧ k ≠ g) v xs := by
  obtain ⟨A0, c0, hb, hg, hr0⟩ := h
  exact Kd.S_types ho hb ht
theorem IsS100.own_neS {w0 W : World} {g : Nat} {f0 : List Int} {f1 : Int} {α : Type} {d : Kd α} {e : Nat} {base : Nat} {ok : Nat → Prop} {v : Value} {xs : List α} (h : IsS100 w0 W g f0 f1) (ho : d.S e W base ok v xs) (ht : e ≠ 100) : some g ≠ v.ownBlock := by
  obtain ⟨A0, c0, hb, hg, hr0⟩ := h
  exact Kd.S_ne ho hb ht
theorem IsS100.lt {w0 W : World} {g : Nat} {f0 : List Int} {f1 : Int} (h : IsS100 w0 W g f0 f1) : g < W.heap.size := by
  obtain ⟨A0, c0, hb, hg, hr0⟩ := h
  exact blk_lt hb
theorem IsS100.ge {w0 W : World} {g : Nat} {f0 : List Int} {f1 : Int} (h : IsS100 w0 W g f0 f1) : w0.heap.size ≤ g := by
  obtain ⟨A0, c0, hb, hg, hr0⟩ := h
  exact hg
theorem IsS100.ne_blk {w0 W : World} {g : Nat} {f0 : List Int} {f1 : Int} {a : Nat} {cs : Array Value} {t : TypeId} {fr : Nat × Nat} (h : IsS100 w0 W g f0 f1) (hb2 : W.heap[a]? = some (.cells cs t fr)) (ht : t ≠ 100) : g ≠ a := by
  obtain ⟨A0, c0, hb, hg, hr0⟩ := h
  rintro rfl
  rw [hb] at hb2
  injection hb2 with hb2
  injection hb2 with _ ht2
  exact ht ht2.symm
theorem IsS100.far {w0 W : World} {g : Nat} {f0 : List Int} {f1 : Int} {p : Addr} (h : IsS100 w0 W g f0 f1) (hne : g ≠ p.block) (u : Value) : IsS100 w0 (W.setCell p u) g f0 f1 := by
  obtain ⟨A0, c0, hb, hg, hr0⟩ := h
  exact ⟨A0, c0, blk_far hb hne u, hg, hr0⟩
theorem cellS100_0 {W : World} {g : Nat} {A0 : Option Addr} {c0 : Nat} {f0 : List Int} {f1 : Int} (h : W.heap[g]? = some (.cells #[.slice A0 f0.length c0, .int .i64 f1] 100 (0, 0))) : W.cell? ⟨g, 0, none⟩ = some (.slice A0 f0.length c0) := (blk_cell h 0).trans rfl
theorem cellS100_1 {W : World} {g : Nat} {A0 : Option Addr} {c0 : Nat} {f0 : List Int} {f1 : Int} (h : W.heap[g]? = some (.cells #[.slice A0 f0.length c0, .int .i64 f1] 100 (0, 0))) : W.cell? ⟨g, 1, none⟩ = some (.int .i64 f1) := (blk_cell h 1).trans rfl
theorem IsS100.set_1 {w0 W : World} {g : Nat} {f0 : List Int} {f1 : Int} (h : IsS100 w0 W g f0 f1) (x : Int) : IsS100 w0 (W.setCell ⟨g, 1, none⟩ (.int .i64 x)) g f0 x := by
  obtain ⟨A0, c0, hb, hg, hr0⟩ := h
  exact ⟨A0, c0, by simpa using blk_set hb 1 (.int .i64 x), hg, hr0⟩
theorem IsS100.new (w0 W : World) (A0 : Option Addr) (c0 : Nat) (f0 : List Int) (f1 : Int) (hB : Below w0.heap.size w0 W) (hr0 : Kd.C (Kd.int .u8) w0 A0 f0.length f0) : IsS100 w0 (W.alloc (.cells #[.slice A0 f0.length c0, .int .i64 f1] 100)) W.heap.size f0 f1 := ⟨A0, c0, by simpa using heap_alloc_new W _, hB.size, hr0⟩

/-! ### spec_l1Source: function 52 -/
def spec_l1Source.f (l0 : List Int) : Option (List Int × Int) := some (l0, 0)

/-! ### spec_l1Next: function 55 -/
def spec_l1Next.f (s0_0 : List Int) (s0_1 : Int) (a1 : Int) : Option (Int × Int) := if a1 < 1 then (some (0, wrap64 (s0_1 + 1))) else (if (s0_0.length : Int) = 0 then (if a1 = 0 then (none) else (some (Int.tmod (wrap64 ((wrap64 ((wrap64 (s0_1 + 1)) - 1)) * 7)) a1, wrap64 (s0_1 + 1)))) else (if 0 ≤ (Int.tmod (wrap64 ((wrap64 (s0_1 + 1)) - 1)) (s0_0.length : Int)) then (if (Int.tmod (wrap64 ((wrap64 (s0_1 + 1)) - 1)) (s0_0.length : Int)) < (s0_0.length : Int) then (if a1 > 200 then (if 0 ≤ (Int.tmod (wrap64 ((wrap64 ((wrap64 (s0_1 + 1)) - 1)) + 1)) (s0_0.length : Int)) then (if (Int.tmod (wrap64 ((wrap64 ((wrap64 (s0_1 + 1)) - 1)) + 1)) (s0_0.length : Int)) < (s0_0.length : Int) then (if a1 = 0 then (none) else (some (Int.tmod (wrap64 ((wrap64 ((wrap64 ((wrap64 ((wrap64 (rd s0_0 (Int.tmod (wrap64 ((wrap64 (s0_1 + 1)) - 1)) (s0_0.length : Int)))) + (wrap64 ((wrap64 (Int.tdiv (wrap64 ((wrap64 (s0_1 + 1)) - 1)) (s0_0.length : Int))) * 37)))) * 251)) + (wrap64 ((wrap64 (rd s0_0 (Int.tmod (wrap64 ((wrap64 ((wrap64 (s0_1 + 1)) - 1)) + 1)) (s0_0.length : Int)))) * 13)))) + (wrap64 ((wrap64 (s0_1 + 1)) - 1)))) a1, wrap64 (s0_1 + 1)))) else (none)) else (none)) else (if a1 = 0 then (none) else (some (Int.tmod (wrap64 ((wrap64 (rd s0_0 (Int.tmod (wrap64 ((wrap64 (s0_1 + 1)) - 1)) (s0_0.length : Int)))) + (wrap64 ((wrap64 (Int.tdiv (wrap64 ((wrap64 (s0_1 + 1)) - 1)) (s0_0.length : Int))) * 37)))) a1, wrap64 (s0_1 + 1))))) else (none)) else (none)))

/-! ### spec_l1Pick: function 54 -/
def spec_l1Pick.f (s0_0 : List Int) (s0_1 : Int) (l1 : List Int) : Option (Int × Int) := (spec_l1Next.f s0_0 s0_1 (l1.length : Int)).bind fun bt413 => (if 0 ≤ bt413.1 then (if bt413.1 < (l1.length : Int) then (some (rd l1 bt413.1, bt413.2)) else (none)) else (none))

/-! ### spec_l1Cells: function 90 -/
def spec_l1Cells.l0 : Nat → List (S49) → Int → List Int → Int → Option ((List (S49)) × Int)
  | 0, _, _, _, _ => none
  | k + 1, x3, x4, x1000, x1001 => if x4 > 0 then (if (x3.length : Int) < 12 then ((spec_l1Next.f x1000 x1001 32).bind fun bt428 => ((spec_l1Next.f x1000 bt428.2 90).bind fun bt430 => ((spec_l1With.f k x3 bt428.1 bt430.1).bind fun t432 => (spec_l1Cells.l0 k t432 (wrap64 (x4 - 1)) x1000 bt430.2)))) else (spec_l1Cells.l0 k x3 (wrap64 (x4 - 1)) x1000 x1001)) else (some (x3, x1001))
def spec_l1Cells.f (k : Nat) (s0_0 : List Int) (s0_1 : Int) : Option ((List (S49)) × Int) := (spec_l1Next.f s0_0 s0_1 6).bind fun bt419 => ((spec_l1Next.f s0_0 bt419.2 6).bind fun bt421 => ((spec_l1Pick.f s0_0 bt421.2 (([bt419.1, bt421.1, 12] : List Int))).bind fun bt426 => (spec_l1Cells.l0 k (([] : List (S49))) bt426.1 s0_0 bt426.2)))

/-! ### spec_l1Page: function 79 -/
def spec_l1Page.f (k : Nat) (s0_0 : List Int) (s0_1 : Int) : Option (Int × Int × (List (S49)) × Int) := (spec_l1Next.f s0_0 s0_1 8).bind fun bt436 => ((spec_l1Next.f s0_0 bt436.2 90).bind fun bt438 => ((spec_l1Cells.f k s0_0 bt438.2).bind fun bt440 => (some (bt436.1, bt438.1, bt440.1, bt440.2))))

/-! ### spec_l1Bent: function 53 -/
def spec_l1Bent.f (k : Nat) (s0_0 : List Int) (s0_1 : Int) : Option (Int × Int × (List (S49)) × Int) := (spec_l1Page.f k s0_0 s0_1).bind fun bt445 => ((spec_l1Next.f s0_0 bt445.2.2.2 20).bind fun bt452 => (if bt452.1 = 0 then ((spec_l1Pick.f s0_0 bt452.2 (([(-1), 8, 7] : List Int))).bind fun bt457 => (some (bt457.1, bt445.2.1, bt445.2.2.1, bt457.2))) else (if bt452.1 = 1 then ((spec_l1Pick.f s0_0 bt452.2 (([(-1), 1000000, 1000001] : List Int))).bind fun bt462 => (some (bt445.1, bt462.1, bt445.2.2.1, bt462.2))) else (if bt452.1 = 2 then ((spec_l1Pick.f s0_0 bt452.2 (([(-1), 32, 3, 31] : List Int))).bind fun bt467 => ((spec_l1Pick.f s0_0 bt467.2 (([(-1), 9999, 10000] : List Int))).bind fun bt472 => (if bt445.2.2.1.length < 8796093022208 then (some (bt445.1, bt445.2.1, (bt445.2.2.1 ++ [(⟨bt467.1, bt472.1⟩ : S49)]), bt472.2)) else (none)))) else (if bt452.1 = 3 then (some (bt445.1, bt445.2.1, (List.replicate 13 z49), bt452.2)) else (some (bt445.1, bt445.2.1, bt445.2.2.1, bt452.2)))))))

/-! ### spec_DrawSetCell: function 20 -/
def spec_DrawSetCell.f (k : Nat) (l0 : List Int) : Option (Int × Int × (List (S49)) × Int × Int × Int) := (spec_l1Source.f l0).bind fun bt481 => ((spec_l1Bent.f k bt481.1 bt481.2).bind fun bt484 => ((spec_l1Next.f bt481.1 bt484.2.2.2 32).bind fun bt491 => ((spec_l1Next.f bt481.1 bt491.2 32).bind fun bt493 => ((spec_l1Pick.f bt481.1 bt493.2 (([bt491.1, bt493.1, 32, (-1)] : List Int))).bind fun bt498 => ((spec_l1Next.f bt481.1 bt498.2 99).bind fun bt500 => ((spec_l1Pick.f bt481.1 bt500.2 (([bt500.1, 9999, 10000, (-1)] : List Int))).bind fun bt505 => ((spec_l1Next.f bt481.1 bt505.2 99).bind fun bt507 => ((spec_l1Pick.f bt481.1 bt507.2 (([bt507.1, 1000001, (-1), 7] : List Int))).bind fun bt512 => (some (bt484.1, bt484.2.1, bt484.2.2.1, bt498.1, bt505.1, bt512.1))))))))))

/-! ### impl_valueIn: function 58 -/
def impl_valueIn.f (l0 : List (S49)) (a1 : Int) : Option (Int × Int) := (impl_place.f l0 a1).bind fun bt515 => (if bt515.2 = true then (if 0 ≤ bt515.1 then (if bt515.1 < (l0.length : Int) then (some (0, (rd_T49 l0 bt515.1).f1)) else (none)) else (none)) else (some (4, 0)))

/-! ### impl_CellOf: function 22 -/
def impl_CellOf.f (k : Nat) (a0_0 : Int) (a0_1 : Int) (l0_2 : List (S49)) (a1 : Int) : Option (Int × Int) := (impl_PageFault.f k a0_0 a0_1 l0_2).bind fun t520 => (if t520 = 0 then ((impl_valueIn.f l0_2 a1).bind fun bt521 => (some (bt521.1, bt521.2))) else (some (t520, 0)))

/-! ### laws_FnCells: function 5 -/
mutual
def laws_FnCells.j0 : Nat → Int → Bool → Int → Int → List (S49) → Int → Int → Int → List (S49) → Int → Int → Int → List (S49) → Option (Bool)
  | 0, _, _, _, _, _, _, _, _, _, _, _, _, _ => none
  | k + 1, x4, x74, x533000, x533001, x533002, x540000, x540001, x540002, x540003, x553000, x553001, x553002, x553003 => if x74 = true then (some false) else (laws_FnCells.l0 k x4 0 x533000 x533001 x533002 x540000 x540001 x540002 x540003 x553000 x553001 x553002 x553003)
def laws_FnCells.l0 : Nat → Int → Int → Int → Int → List (S49) → Int → Int → Int → List (S49) → Int → Int → Int → List (S49) → Option (Bool)
  | 0, _, _, _, _, _, _, _, _, _, _, _, _, _ => none
  | k + 1, x4, x9, x533000, x533001, x533002, x540000, x540001, x540002, x540003, x553000, x553001, x553002, x553003 => if x9 < (x533002.length : Int) then (if 0 ≤ x9 then (if ((rd_T49 x533002 x9).f0) = x4 then (laws_FnCells.l0 k x4 (wrap64 (x9 + 1)) x533000 x533001 x533002 x540000 x540001 x540002 x540003 x553000 x553001 x553002 x553003) else ((impl_CellOf.f k x540001 x540002 x540003 ((rd_T49 x533002 x9).f0)).bind fun bt560 => (if bt560.2 = ((rd_T49 x533002 x9).f1) then ((impl_CellOf.f k x553001 x553002 x553003 ((rd_T49 x533002 x9).f0)).bind fun bt562 => (if bt562.2 = ((rd_T49 x533002 x9).f1) then (laws_FnCells.l0 k x4 (wrap64 (x9 + 1)) x533000 x533001 x533002 x540000 x540001 x540002 x540003 x553000 x553001 x553002 x553003) else (some false))) else (some false)))) else (none)) else (some ((wrap64 ((x553003.length : Int) + 1)) == (x540003.length : Int)))
end
def laws_FnCells.f (k : Nat) (l0 : List Int) : Option (Bool) := (laws_lwBig.f l0).bind fun t523 => (if t523 = true then (some true) else ((spec_DrawSetCell.f k l0).bind fun bt524 => ((impl_SetCell.f k bt524.1 bt524.2.1 bt524.2.2.1 bt524.2.2.2.1 bt524.2.2.2.2.1 bt524.2.2.2.2.2).bind fun bt533 => (if bt533.1 = 0 then ((impl_DropCell.f k bt533.2.1 bt533.2.2.1 bt533.2.2.2 bt524.2.2.2.1 bt524.2.2.2.2.2).bind fun bt546 => ((impl_PageFault.f k bt533.2.1 bt533.2.2.1 bt533.2.2.2).bind fun t553 => (if t553 = 0 then ((impl_CellOf.f k bt533.2.1 bt533.2.2.1 bt533.2.2.2 bt524.2.2.2.1).bind fun bt554 => (if bt554.2 = bt524.2.2.2.2.1 then (if bt533.2.2.1 = bt524.2.2.2.2.2 then (if bt546.1 = 0 then ((impl_CellOf.f k bt546.2.1 bt546.2.2.1 bt546.2.2.2 bt524.2.2.2.1).bind fun bt556 => (laws_FnCells.j0 k bt524.2.2.2.1 (bt556.1 != 4) bt524.1 bt524.2.1 bt524.2.2.1 bt533.1 bt533.2.1 bt533.2.2.1 bt533.2.2.2 bt546.1 bt546.2.1 bt546.2.2.1 bt546.2.2.2)) else (laws_FnCells.j0 k bt524.2.2.2.1 true bt524.1 bt524.2.1 bt524.2.2.1 bt533.1 bt533.2.1 bt533.2.2.1 bt533.2.2.2 bt546.1 bt546.2.1 bt546.2.2.1 bt546.2.2.2)) else (laws_FnCells.j0 k bt524.2.2.2.1 true bt524.1 bt524.2.1 bt524.2.2.1 bt533.1 bt533.2.1 bt533.2.2.1 bt533.2.2.2 bt546.1 bt546.2.1 bt546.2.2.1 bt546.2.2.2)) else (laws_FnCells.j0 k bt524.2.2.2.1 true bt524.1 bt524.2.1 bt524.2.2.1 bt533.1 bt533.2.1 bt533.2.2.1 bt533.2.2.2 bt546.1 bt546.2.1 bt546.2.2.1 bt546.2.2.2))) else (laws_FnCells.j0 k bt524.2.2.2.1 true bt524.1 bt524.2.1 bt524.2.2.1 bt533.1 bt533.2.1 bt533.2.2.1 bt533.2.2.2 bt546.1 bt546.2.1 bt546.2.2.1 bt546.2.2.2)))) else ((spec_SetCell.f k bt524.1 bt524.2.1 bt524.2.2.1 bt524.2.2.2.1 bt524.2.2.2.2.1 bt524.2.2.2.2.2).bind fun bt540 => (some (bt540.1 == bt533.1)))))))

/-! ### spec_SumBytes: function 65 -/
def spec_SumBytes.l0 : Nat → List Int → Int → Int → Option (Int)
  | 0, _, _, _ => none
  | k + 1, x0, x3, x4 => if x4 < (x0.length : Int) then (if 0 ≤ x4 then (spec_SumBytes.l0 k x0 (Int.tmod (wrap64 ((wrap64 ((wrap64 (x3 * 269)) + (wrap64 (rd x0 x4)))) + 1)) 65521) (wrap64 (x4 + 1))) else (none)) else (some x3)
def spec_SumBytes.f (k : Nat) (l0 : List Int) : Option (Int) := spec_SumBytes.l0 k l0 9 0

/-! ### spec_l1Bytes: function 81 -/
def spec_l1Bytes.l0 : Nat → Int → List Int → Int → Option (List Int)
  | 0, _, _, _ => none
  | k + 1, x0, x5, x6 => if x6 ≥ 0 then (if 0 ≤ (IntKind.u64.wrap (wrap64 (8 * x6))) then (if x5.length < 140737488355328 then (spec_l1Bytes.l0 k x0 (x5 ++ [(shr .i64 x0 (IntKind.u64.wrap (wrap64 (8 * x6)))) % 256]) (wrap64 (x6 - 1))) else (none)) else (none)) else (some x5)
def spec_l1Bytes.f (k : Nat) (a0 : Int) (a1 : Int) : Option (List Int) := spec_l1Bytes.l0 k a0 (([] : List Int)) (wrap64 (a1 - 1))

/-! ### spec_l1Pack: function 66 -/
mutual
def spec_l1Pack.l0 : Nat → List Int → Int → Int → Int → List (S49) → Option (List Int)
  | 0, _, _, _, _, _ => none
  | k + 1, x3, x4, x572000, x572001, x572002 => if x4 < (x572002.length : Int) then (if 0 ≤ x4 then (if x3.length < 140737488355328 then ((some (x3 ++ [((rd_T49 x572002 x4).f0) % 256] : List Int)).bind fun y585 => ((spec_l1Bytes.f k ((rd_T49 x572002 x4).f1) 2).bind fun t589 => (if y585.length + t589.length < 140737488355328 then (spec_l1Pack.l0 k (y585 ++ t589) (wrap64 (x4 + 1)) x572000 x572001 x572002) else (none)))) else (none)) else (none)) else (spec_l1Pack.l1 k x3)
def spec_l1Pack.l1 : Nat → List Int → Option (List Int)
  | 0, _ => none
  | k + 1, x3 => if (x3.length : Int) < 46 then (if x3.length < 140737488355328 then (spec_l1Pack.l1 k (x3 ++ [0])) else (none)) else ((spec_SumBytes.f k x3).bind fun t598 => ((spec_l1Bytes.f k t598 2).bind fun t599 => (if x3.length + t599.length < 140737488355328 then (some (x3 ++ t599)) else (none))))
end
def spec_l1Pack.f (k : Nat) (a0_0 : Int) (a0_1 : Int) (l0_2 : List (S49)) : Option (List Int) := (some (([(a0_0) % 256] : List Int) : List Int)).bind fun y572 => ((spec_l1Bytes.f k a0_1 4).bind fun t575 => (if y572.length + t575.length < 140737488355328 then ((some (y572 ++ t575 : List Int)).bind fun y578 => (if y578.length < 140737488355328 then (spec_l1Pack.l0 k (y578 ++ [((l0_2.length : Int)) % 256]) 0 a0_0 a0_1 l0_2) else (none))) else (none)))

/-! ### spec_l1Wire: function 59 -/
def spec_l1Wire.f (k : Nat) (s0_0 : List Int) (s0_1 : Int) : Option (List Int × Int) := (spec_l1Page.f k s0_0 s0_1).bind fun bt605 => ((spec_l1Pack.f k bt605.1 bt605.2.1 bt605.2.2.1).bind fun t611 => ((spec_l1Next.f s0_0 bt605.2.2.2 8).bind fun bt614 => (if bt614.1 = 0 then ((spec_l1Next.f s0_0 bt614.2 (t611.length : Int)).bind fun bt616 => ((spec_l1Next.f s0_0 bt616.2 256).bind fun bt618 => (if 0 ≤ bt616.1 then (if bt616.1 < (t611.length : Int) then (some ((t611.set (bt616.1 : Int).toNat ((bt618.1) % 256)), bt618.2)) else (none)) else (none)))) else (if bt614.1 = 1 then ((spec_l1Next.f s0_0 bt614.2 (t611.length : Int)).bind fun bt621 => (if 0 ≤ bt621.1 then (if bt621.1 ≤ (t611.length : Int) then (some ((t611.take (bt621.1 : Int).toNat), bt621.2)) else (none)) else (none))) else (if bt614.1 = 2 then ((spec_l1Next.f s0_0 bt614.2 46).bind fun bt626 => ((spec_l1Next.f s0_0 bt626.2 40).bind fun bt628 => (if 0 ≤ bt626.1 then (if bt626.1 < (t611.length : Int) then ((some (t611.set (bt626.1 : Int).toNat ((bt628.1) % 256) : List Int)).bind fun y630 => (if 46 ≤ (t611.length : Int) then ((spec_SumBytes.f k (y630.take 46)).bind fun t635 => (if 46 < (t611.length : Int) then (if 47 < (t611.length : Int) then (some (((y630.set (46 : Int).toNat ((wrap64 (Int.tdiv t635 256)) % 256)).set (47 : Int).toNat ((Int.tmod t635 256) % 256)), bt628.2)) else (none)) else (none))) else (none))) else (none)) else (none)))) else (some (t611, bt614.2)))))))

/-! ### spec_DrawUnpackPage: function 23 -/
def spec_DrawUnpackPage.f (k : Nat) (l0 : List Int) : Option (List Int) := (spec_l1Source.f l0).bind fun bt638 => ((spec_l1Wire.f k bt638.1 bt638.2).bind fun bt641 => (some bt641.1))

/-! ### impl_take: function 60 -/
def impl_take.l0 : Nat → Int → List Int → Int → Int → Option (Int)
  | 0, _, _, _, _ => none
  | k + 1, x3, x6, x7, x8 => if x8 < x7 then (if 0 ≤ x8 then (if x8 < (x6.length : Int) then (impl_take.l0 k (Go.bits .or .i64 (wrap64 (x3 * 256)) (wrap64 (rd x6 x8))) x6 x7 (wrap64 (x8 + 1))) else (none)) else (none)) else (some x3)
def impl_take.f (k : Nat) (l0 : List Int) : Option (Int) := impl_take.l0 k 0 l0 (l0.length : Int) 0

/-! ### impl_SumBytes: function 61 -/
def impl_SumBytes.l0 : Nat → Int → List Int → Int → Int → Option (Int)
  | 0, _, _, _, _ => none
  | k + 1, x3, x6, x7, x8 => if x8 < x7 then (if 0 ≤ x8 then (if x8 < (x6.length : Int) then (impl_SumBytes.l0 k (Int.tmod (wrap64 ((wrap64 ((wrap64 (x3 * 269)) + (wrap64 (rd x6 x8)))) + 1)) 65521) x6 x7 (wrap64 (x8 + 1))) else (none)) else (none)) else (some x3)
def impl_SumBytes.f (k : Nat) (l0 : List Int) : Option (Int) := impl_SumBytes.l0 k 9 l0 (l0.length : Int) 0

/-! ### slices_Equal_byte: function 62 -/
def slices_Equal_byte.l0 : Nat → List Int → List Int → Int → Int → Option (Bool)
  | 0, _, _, _, _ => none
  | k + 1, x0, x1, x12, x13 => if x13 < x12 then (if 0 ≤ x13 then (if x13 < (x0.length : Int) then (if x13 < (x1.length : Int) then (if (rd x0 x13) = (rd x1 x13) then (slices_Equal_byte.l0 k x0 x1 x12 (wrap64 (x13 + 1))) else (some false)) else (none)) else (none)) else (none)) else (some true)
def slices_Equal_byte.f (k : Nat) (l0 : List Int) (l1 : List Int) : Option (Bool) := if (l0.length : Int) = (l1.length : Int) then (slices_Equal_byte.l0 k l0 l1 (l0.length : Int) 0) else (some false)

/-! ### impl_put: function 80 -/
def impl_put.l0 : Nat → List Int → Int → Int → Option (List Int)
  | 0, _, _, _ => none
  | k + 1, x0, x1, x7 => if x7 ≥ 0 then (if 0 ≤ (wrap64 (8 * x7)) then (if x0.length < 140737488355328 then (impl_put.l0 k (x0 ++ [(shr .i64 x1 (wrap64 (8 * x7))) % 256]) x1 (wrap64 (x7 - 1))) else (none)) else (none)) else (some x0)
def impl_put.f (k : Nat) (l0 : List Int) (a1 : Int) (a2 : Int) : Option (List Int) := impl_put.l0 k l0 a1 (wrap64 (a2 - 1))

/-! ### impl_Page_pack: function 63 -/
def impl_Page_pack.l0 : Nat → List Int → List (S49) → Int → Int → Option (List Int)
  | 0, _, _, _, _ => none
  | k + 1, x3, x17, x18, x19 => if x19 < x18 then (if 0 ≤ x19 then (if x19 < (x17.length : Int) then ((impl_put.f k x3 ((rd_T49 x17 x19).f0) 1).bind fun t664 => ((impl_put.f k t664 ((rd_T49 x17 x19).f1) 2).bind fun t667 => (impl_Page_pack.l0 k t667 x17 x18 (wrap64 (x19 + 1))))) else (none)) else (none)) else (if 0 ≤ (wrap64 (46 - (x3.length : Int))) then (if x3.length + (wrap64 (46 - (x3.length : Int)) : Int).toNat < 140737488355328 then ((some (x3 ++ List.replicate (wrap64 (46 - (x3.length : Int)) : Int).toNat 0 : List Int)).bind fun y670 => ((impl_SumBytes.f k y670).bind fun t673 => ((impl_put.f k y670 t673 2).bind fun t674 => (some t674)))) else (none)) else (none))
def impl_Page_pack.f (k : Nat) (a0_0 : Int) (a0_1 : Int) (l0_2 : List (S49)) : Option (List Int) := (impl_put.f k ([] : List Int) a0_0 1).bind fun t653 => ((impl_put.f k t653 a0_1 4).bind fun t656 => ((impl_put.f k t656 (l0_2.length : Int) 1).bind fun t659 => (impl_Page_pack.l0 k t659 l0_2 (l0_2.length : Int) 0)))

/-! ### impl_UnpackPage: function 24 -/
def impl_UnpackPage.l0 : Nat → List Int → Int → Int → Int → Int → Int → List (S49) → Option (Int × Int × Int × (List (S49)))
  | 0, _, _, _, _, _, _, _ => none
  | k + 1, x0, x3, x32, x33, x687000, x687001, x687002 => if x33 < x32 then (if (wrap64 ((wrap64 (6 + (wrap64 (3 * x33)))) + 3)) > x3 then (some (5, 0, 0, ([] : List (S49)))) else (if 0 ≤ (wrap64 (6 + (wrap64 (3 * x33)))) then (if (wrap64 (6 + (wrap64 (3 * x33)))) ≤ (wrap64 ((wrap64 (6 + (wrap64 (3 * x33)))) + 1)) then (if (wrap64 ((wrap64 (6 + (wrap64 (3 * x33)))) + 1)) ≤ (x0.length : Int) then ((impl_take.f k ((x0.take ((wrap64 ((wrap64 (6 + (wrap64 (3 * x33)))) + 1)) : Int).toNat).drop ((wrap64 (6 + (wrap64 (3 * x33)))) : Int).toNat)).bind fun t689 => (if 0 ≤ (wrap64 ((wrap64 (6 + (wrap64 (3 * x33)))) + 1)) then (if (wrap64 ((wrap64 (6 + (wrap64 (3 * x33)))) + 1)) ≤ (wrap64 ((wrap64 (6 + (wrap64 (3 * x33)))) + 3)) then (if (wrap64 ((wrap64 (6 + (wrap64 (3 * x33)))) + 3)) ≤ (x0.length : Int) then ((impl_take.f k ((x0.take ((wrap64 ((wrap64 (6 + (wrap64 (3 * x33)))) + 3)) : Int).toNat).drop ((wrap64 ((wrap64 (6 + (wrap64 (3 * x33)))) + 1)) : Int).toNat)).bind fun t691 => (if x687002.length < 8796093022208 then (impl_UnpackPage.l0 k x0 x3 x32 (wrap64 (x33 + 1)) x687000 x687001 (x687002 ++ [(⟨t689, t691⟩ : S49)])) else (none))) else (none)) else (none)) else (none))) else (none)) else (none)) else (none))) else ((impl_PageFault.f k x687000 x687001 x687002).bind fun t695 => (if t695 = 0 then ((impl_Page_pack.f k x687000 x687001 x687002).bind fun t696 => ((slices_Equal_byte.f k t696 x0).bind fun t699 => (if t699 = true then (some (0, x687000, x687001, x687002)) else (some (5, 0, 0, ([] : List (S49))))))) else (some (5, 0, 0, ([] : List (S49))))))
def impl_UnpackPage.f (k : Nat) (l0 : List Int) : Option (Int × Int × Int × (List (S49))) := if (l0.length : Int) = 48 then (if 46 ≤ (l0.length : Int) then ((impl_take.f k (l0.drop 46)).bind fun t679 => ((impl_SumBytes.f k (l0.take 46)).bind fun t681 => (if t679 = t681 then (if 1 ≤ (l0.length : Int) then ((impl_take.f k (l0.take 1)).bind fun t683 => (if 5 ≤ (l0.length : Int) then ((impl_take.f k ((l0.take 5).drop 1)).bind fun t685 => (if 5 < (l0.length : Int) then (impl_UnpackPage.l0 k l0 46 (mn (wrap64 (rd l0 5)) 13) 0 t683 t685 ([] : List (S49))) else (none))) else (none))) else (none)) else (some (6, 0, 0, ([] : List (S49))))))) else (none)) else (some (1, 0, 0, ([] : List (S49))))

/-! ### impl_PackPage: function 25 -/
def impl_PackPage.f (k : Nat) (a0_0 : Int) (a0_1 : Int) (l0_2 : List (S49)) : Option (Int × List Int) := (impl_PageFault.f k a0_0 a0_1 l0_2).bind fun t702 => (if t702 = 0 then ((impl_Page_pack.f k a0_0 a0_1 l0_2).bind fun t703 => (some (0, t703))) else (some (t702, ([] : List Int))))

/-! ### spec_l1Take: function 64 -/
def spec_l1Take.l0 : Nat → List Int → Int → Int → Int → Int → Option (Int)
  | 0, _, _, _, _, _ => none
  | k + 1, x0, x1, x2, x7, x8 => if x8 < x2 then (if 0 ≤ (wrap64 (x1 + x8)) then (if (wrap64 (x1 + x8)) < (x0.length : Int) then (spec_l1Take.l0 k x0 x1 x2 (wrap64 ((wrap64 (x7 * 256)) + (wrap64 (rd x0 (wrap64 (x1 + x8)))))) (wrap64 (x8 + 1))) else (none)) else (none)) else (some x7)
def spec_l1Take.f (k : Nat) (l0 : List Int) (a1 : Int) (a2 : Int) : Option (Int) := spec_l1Take.l0 k l0 a1 a2 0 0

/-! ### spec_UnpackPage: function 26 -/
mutual
def spec_UnpackPage.j1 : Nat → List Int → Int → Int → List (S49) → Option (Int × Int × Int × (List (S49)))
  | 0, _, _, _, _ => none
  | k + 1, x0, x714000, x714001, x714002 => (spec_PageFault.f k x714000 x714001 x714002).bind fun t720 => (if t720 = 0 then ((spec_l1Pack.f k x714000 x714001 x714002).bind fun t721 => (if (strOfNums t721).toList = (strOfNums x0).toList then (some (0, x714000, x714001, x714002)) else (some (5, 0, 0, ([] : List (S49)))))) else (some (5, 0, 0, ([] : List (S49)))))
def spec_UnpackPage.l0 : Nat → List Int → Int → Int → Int → List (S49) → Option (Int × Int × Int × (List (S49)))
  | 0, _, _, _, _, _ => none
  | k + 1, x0, x4, x714000, x714001, x714002 => if 5 < (x0.length : Int) then (if x4 < (wrap64 (rd x0 5)) then (if (wrap64 (9 + (wrap64 (3 * x4)))) < 46 then (if 0 ≤ (wrap64 (6 + (wrap64 (3 * x4)))) then (if (wrap64 (6 + (wrap64 (3 * x4)))) < (x0.length : Int) then ((spec_l1Take.f k x0 (wrap64 (7 + (wrap64 (3 * x4)))) 2).bind fun t716 => (if x714002.length < 8796093022208 then (spec_UnpackPage.l0 k x0 (wrap64 (x4 + 1)) x714000 x714001 (x714002 ++ [(⟨wrap64 (rd x0 (wrap64 (6 + (wrap64 (3 * x4))))), t716⟩ : S49)])) else (none))) else (none)) else (none)) else (spec_UnpackPage.j1 k x0 x714000 x714001 x714002)) else (spec_UnpackPage.j1 k x0 x714000 x714001 x714002)) else (none)
end
def spec_UnpackPage.f (k : Nat) (l0 : List Int) : Option (Int × Int × Int × (List (S49))) := if (l0.length : Int) = 48 then ((spec_l1Take.f k l0 46 2).bind fun t708 => (if 46 ≤ (l0.length : Int) then ((spec_SumBytes.f k (l0.take 46)).bind fun t710 => (if t708 = t710 then (if 0 < (l0.length : Int) then ((spec_l1Take.f k l0 1 4).bind fun t712 => (spec_UnpackPage.l0 k l0 0 (wrap64 (rd l0 0)) t712 ([] : List (S49)))) else (none)) else (some (6, 0, 0, ([] : List (S49)))))) else (none))) else (some (1, 0, 0, ([] : List (S49))))

/-! ### spec_DrawPackPage: function 27 -/
def spec_DrawPackPage.f (k : Nat) (l0 : List Int) : Option (Int × Int × (List (S49))) := (spec_l1Source.f l0).bind fun bt725 => ((spec_l1Bent.f k bt725.1 bt725.2).bind fun bt728 => (some (bt728.1, bt728.2.1, bt728.2.2.1)))

/-! ### laws_lwCells: function 29 -/
def laws_lwCells.l0 : Nat → List (S49) → List (S49) → Int → Option (Bool)
  | 0, _, _, _ => none
  | k + 1, x0, x1, x5 => if x5 < (x0.length : Int) then (if 0 ≤ x5 then (if x5 < (x1.length : Int) then (if (!(((rd_T49 x0 x5).f0) == ((rd_T49 x1 x5).f0)) || (!(((rd_T49 x0 x5).f1) == ((rd_T49 x1 x5).f1)))) = true then (some false) else (laws_lwCells.l0 k x0 x1 (wrap64 (x5 + 1)))) else (none)) else (none)) else (some true)
def laws_lwCells.f (k : Nat) (l0 : List (S49)) (l1 : List (S49)) : Option (Bool) := if (l0.length : Int) = (l1.length : Int) then (laws_lwCells.l0 k l0 l1 0) else (some false)

/-! ### laws_FnPages: function 6 -/
def laws_FnPages.j0 : Nat → List Int → Bool → Option (Bool)
  | 0, _, _ => none
  | k + 1, x0, x39 => if x39 = true then (some false) else ((spec_DrawPackPage.f k x0).bind fun bt757 => ((impl_PackPage.f k bt757.1 bt757.2.1 bt757.2.2).bind fun bt763 => (if bt763.1 = 0 then ((impl_UnpackPage.f k bt763.2).bind fun bt768 => (if (bt763.2.length : Int) = 48 then (if bt768.1 = 0 then (if bt768.2.1 = bt757.1 then (if bt768.2.2.1 = bt757.2.1 then ((laws_lwCells.f k bt768.2.2.2 bt757.2.2).bind fun t775 => (some t775)) else (some false)) else (some false)) else (some false)) else (some false))) else ((spec_PageFault.f k bt757.1 bt757.2.1 bt757.2.2).bind fun t776 => (some (t776 == bt763.1))))))
def laws_FnPages.f (k : Nat) (l0 : List Int) : Option (Bool) := (laws_lwBig.f l0).bind fun t736 => (if t736 = true then (some true) else ((spec_DrawUnpackPage.f k l0).bind fun t737 => ((impl_UnpackPage.f k t737).bind fun bt740 => (if bt740.1 = 0 then ((impl_PackPage.f k bt740.2.1 bt740.2.2.1 bt740.2.2.2).bind fun bt747 => (if (strOfNums bt747.2).toList = (strOfNums t737).toList then (laws_FnPages.j0 k l0 false) else (laws_FnPages.j0 k l0 true))) else ((spec_UnpackPage.f k t737).bind fun bt751 => (laws_FnPages.j0 k l0 (bt751.1 != bt740.1)))))))

/-! ### spec_NewDisk: function 30 -/
def spec_NewDisk.l0 : Nat → Int → Int → Int → List (List Int) → Option (Int × (List (List Int)) × (List (S113)))
  | 0, _, _, _, _ => none
  | k + 1, x0, x4, x780000, x780001 => if x4 < x0 then ((spec_l1Pack.f k x4 0 ([] : List (S49))).bind fun t780 => (if x780001.length < 5864062014805 then (spec_NewDisk.l0 k x0 (wrap64 (x4 + 1)) x780000 (x780001 ++ [t780])) else (none))) else (some (x780000, x780001, ([] : List (S113))))
def spec_NewDisk.f (k : Nat) (a0 : Int) : Option (Int × (List (List Int)) × (List (S113))) := (spec_l1In.f a0 1 8).bind fun t778 => (if t778 = true then (spec_NewDisk.l0 k a0 0 0 ([] : List (List Int))) else (some (3, ([] : List (List Int)), ([] : List (S113)))))

/-! ### impl_NewDisk: function 31 -/
def impl_NewDisk.l0 : Nat → Int → Int → List (List Int) → Option (Int × (List (List Int)) × (List (S113)))
  | 0, _, _, _ => none
  | k + 1, x10, x11, x789000 => if x11 < x10 then ((impl_Page_pack.f k x11 0 ([] : List (S49))).bind fun t789 => (if x789000.length < 5864062014805 then (impl_NewDisk.l0 k x10 (wrap64 (x11 + 1)) (x789000 ++ [t789])) else (none))) else (some (0, x789000, ([] : List (S113))))
def impl_NewDisk.f (k : Nat) (a0 : Int) : Option (Int × (List (List Int)) × (List (S113))) := (impl_within.f a0 1 8).bind fun t787 => (if t787 = true then (impl_NewDisk.l0 k a0 0 ([] : List (List Int))) else (some (3, ([] : List (List Int)), ([] : List (S113)))))

/-! ### laws_eqByteS: function 91 -/
def laws_eqByteS.l0 : Nat → List Int → List Int → Int → Option (Bool)
  | 0, _, _, _ => none
  | k + 1, x0, x1, x5 => if x5 < (x0.length : Int) then (if 0 ≤ x5 then (if x5 < (x1.length : Int) then (if (rd x0 x5) = (rd x1 x5) then (laws_eqByteS.l0 k x0 x1 (wrap64 (x5 + 1))) else (some false)) else (none)) else (none)) else (some true)
def laws_eqByteS.f (k : Nat) (l0 : List Int) (l1 : List Int) : Option (Bool) := if (l0.length : Int) = (l1.length : Int) then (laws_eqByteS.l0 k l0 l1 0) else (some false)

/-! ### laws_eqByteSS: function 82 -/
def laws_eqByteSS.l0 : Nat → List (List Int) → List (List Int) → Int → Option (Bool)
  | 0, _, _, _ => none
  | k + 1, x0, x1, x5 => if x5 < (x0.length : Int) then (if 0 ≤ x5 then (if x5 < (x1.length : Int) then ((laws_eqByteS.f k (rd_L6 x0 x5) (rd_L6 x1 x5)).bind fun t799 => (if t799 = true then (laws_eqByteSS.l0 k x0 x1 (wrap64 (x5 + 1))) else (some false))) else (none)) else (none)) else (some true)
def laws_eqByteSS.f (k : Nat) (l0 : List (List Int)) (l1 : List (List Int)) : Option (Bool) := if (l0.length : Int) = (l1.length : Int) then (laws_eqByteSS.l0 k l0 l1 0) else (some false)

/-! ### laws_eqLoose: function 92 -/
def laws_eqLoose.f (k : Nat) (a0_0 : Int) (a0_1 : Int) (l0_2 : List Int) (a1_0 : Int) (a1_1 : Int) (l1_2 : List Int) : Option (Bool) := if a0_0 = a1_0 then (if a0_1 = a1_1 then ((laws_eqByteS.f k l0_2 l1_2).bind fun t802 => (if t802 = true then (some true) else (some false))) else (some false)) else (some false)

/-! ### laws_eqLooseS: function 83 -/
def laws_eqLooseS.l0 : Nat → List (S113) → List (S113) → Int → Option (Bool)
  | 0, _, _, _ => none
  | k + 1, x0, x1, x5 => if x5 < (x0.length : Int) then (if 0 ≤ x5 then (if x5 < (x1.length : Int) then ((laws_eqLoose.f k ((rd_T113 x0 x5).f0) ((rd_T113 x0 x5).f1) ((rd_T113 x0 x5).f2) ((rd_T113 x1 x5).f0) ((rd_T113 x1 x5).f1) ((rd_T113 x1 x5).f2)).bind fun t805 => (if t805 = true then (laws_eqLooseS.l0 k x0 x1 (wrap64 (x5 + 1))) else (some false))) else (none)) else (none)) else (some true)
def laws_eqLooseS.f (k : Nat) (l0 : List (S113)) (l1 : List (S113)) : Option (Bool) := if (l0.length : Int) = (l1.length : Int) then (laws_eqLooseS.l0 k l0 l1 0) else (some false)

/-! ### laws_eqDisk: function 68 -/
def laws_eqDisk.f (k : Nat) (l0_0 : List (List Int)) (l0_1 : List (S113)) (l1_0 : List (List Int)) (l1_1 : List (S113)) : Option (Bool) := (laws_eqByteSS.f k l0_0 l1_0).bind fun t808 => (if t808 = true then ((laws_eqLooseS.f k l0_1 l1_1).bind fun t809 => (if t809 = true then (some true) else (some false))) else (some false))

/-! ### laws_eqDiskResult: function 32 -/
def laws_eqDiskResult.f (k : Nat) (a0_0 : Int) (l0_1 : List (List Int)) (l0_2 : List (S113)) (a1_0 : Int) (l1_1 : List (List Int)) (l1_2 : List (S113)) : Option (Bool) := if a0_0 = a1_0 then ((laws_eqDisk.f k l0_1 l0_2 l1_1 l1_2).bind fun t812 => (if t812 = true then (some true) else (some false))) else (some false)

/-! ### laws_markByteS: function 93 -/
def laws_markByteS.l0 : Nat → List Int → Int → Int → Option (Int × List Int)
  | 0, _, _, _ => none
  | k + 1, x0, x1, x5 => if x5 < (x0.length : Int) then (if 0 ≤ x5 then (laws_markByteS.l0 k (x0.set (x5 : Int).toNat ((x1) % 256)) (wrap64 (x1 + 1)) (wrap64 (x5 + 1))) else (none)) else (some (x1, x0))
def laws_markByteS.f (k : Nat) (l0 : List Int) (a1 : Int) : Option (Int × List Int) := laws_markByteS.l0 k l0 a1 0

/-! ### laws_heldByteS: function 94 -/
def laws_heldByteS.l0 : Nat → List Int → Int → Int → Option (Int)
  | 0, _, _, _ => none
  | k + 1, x0, x1, x5 => if x5 < (x0.length : Int) then (if 0 ≤ x5 then (if (rd x0 x5) = ((x1) % 256) then (laws_heldByteS.l0 k x0 (wrap64 (x1 + 1)) (wrap64 (x5 + 1))) else (some (-1))) else (none)) else (some x1)
def laws_heldByteS.f (k : Nat) (l0 : List Int) (a1 : Int) : Option (Int) := laws_heldByteS.l0 k l0 a1 0

/-! ### laws_heldByteSS: function 86 -/
def laws_heldByteSS.l0 : Nat → List (List Int) → Int → Int → Option (Int)
  | 0, _, _, _ => none
  | k + 1, x0, x1, x5 => if x5 < (x0.length : Int) then (if 0 ≤ x5 then ((laws_heldByteS.f k (rd_L6 x0 x5) x1).bind fun t819 => (if t819 < 0 then (some (-1)) else (laws_heldByteSS.l0 k x0 t819 (wrap64 (x5 + 1))))) else (none)) else (some x1)
def laws_heldByteSS.f (k : Nat) (l0 : List (List Int)) (a1 : Int) : Option (Int) := laws_heldByteSS.l0 k l0 a1 0

/-! ### laws_heldLooseS: function 87 -/
def laws_heldLooseS.l0 : Nat → List (S113) → Int → Int → Option (Int)
  | 0, _, _, _ => none
  | k + 1, x0, x1, x5 => if x5 < (x0.length : Int) then (if 0 ≤ x5 then (if ((rd_T113 x0 x5).f0) = x1 then (if ((rd_T113 x0 x5).f1) = (wrap64 (x1 + 1)) then ((laws_heldByteS.f k ((rd_T113 x0 x5).f2) (wrap64 ((wrap64 (x1 + 1)) + 1))).bind fun t823 => (if t823 < 0 then (some (-1)) else (laws_heldLooseS.l0 k x0 t823 (wrap64 (x5 + 1))))) else (some (-1))) else (some (-1))) else (none)) else (some x1)
def laws_heldLooseS.f (k : Nat) (l0 : List (S113)) (a1 : Int) : Option (Int) := laws_heldLooseS.l0 k l0 a1 0

/-! ### laws_heldDisk: function 70 -/
def laws_heldDisk.f (k : Nat) (l0_0 : List (List Int)) (l0_1 : List (S113)) (a1 : Int) : Option (Int) := (laws_heldByteSS.f k l0_0 a1).bind fun t825 => (if t825 < 0 then (some (-1)) else ((laws_heldLooseS.f k l0_1 t825).bind fun t826 => (if t826 < 0 then (some (-1)) else (some t826))))

/-! ### laws_heldDiskResult: function 34 -/
def laws_heldDiskResult.f (k : Nat) (a0_0 : Int) (l0_1 : List (List Int)) (l0_2 : List (S113)) (a1 : Int) : Option (Int) := (laws_heldDisk.f k l0_1 l0_2 a1).bind fun t828 => (if t828 < 0 then (some (-1)) else (some t828))

end Go.Proofs.Ytpdfpbnlablhoaa.P
