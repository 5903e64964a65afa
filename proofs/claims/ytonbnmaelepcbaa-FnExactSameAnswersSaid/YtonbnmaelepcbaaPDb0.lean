-- Printed by this session's own program over the kit's print (wip/tools/mp.py). Not trusted: Lean checks it.
import Derived.Test.YtonbnmaelepcbaaP0
import Derived.Test.YtonbnmaelepcbaaPDm0
import Derived.Test.YtonbnmaelepcbaaPDm1
import Derived.Test.YtonbnmaelepcbaaLb
namespace Go.Proofs.Ytonbnmaelepcbaa.P
open Go.RowKit Go.Proofs.YtonbnmaelepcbaaW.PrintWords Go.Proofs.YtonbnmaelepcbaaW.PrintLast Go.Proofs.YtonbnmaelepcbaaW.PrintMore
attribute [local go_sem] max2_int min2_int max_two min_two max_three min_three max_four min_four   -- for this text's walks alone
set_option linter.unusedVariables false
set_option linter.unusedSimpArgs false

/-! ### laws_szCellS: function 16 -/
def laws_szCellS.f (l0 : List (S107)) (a1 : Int) : Option (Int) := if (wrap64 (a1 - (l0.length : Int))) < 0 then (some (-1)) else (some (wrap64 (a1 - (l0.length : Int))))

/-! ### spec_l6Bad: function 70 -/
def spec_l6Bad.f (a0 : Int) : Option (Int × Int × Int × Int × (List (S83)) × (List (S87))) := some (a0, 0, 0, 0, ([] : List (S83)), ([] : List (S87)))

/-! ### spec_NewEngine: function 17 -/
mutual
def spec_NewEngine.l0 : Nat → List (S105) → Int → Int → Int → List (S87) → Option (Int × Int × Int × Int × (List (S83)) × (List (S87)))
  | 0, _, _, _, _, _ => none
  | k + 1, x0, x4, x284000, x284001, x284003 => if x4 < (x0.length : Int) then (if 0 ≤ x4 then ((spec_l1Key.f ((rd_T105 x0 x4).f0)).bind fun t285 => (if t285 = true then ((spec_l1Value.f ((rd_T105 x0 x4).f1)).bind fun t287 => (spec_NewEngine.j1 k x0 x4 (!t287) x284000 x284001 x284003)) else (spec_NewEngine.j1 k x0 x4 true x284000 x284001 x284003))) else (none)) else (some (0, 0, x284000, x284001, ([] : List (S83)), x284003))
def spec_NewEngine.j1 : Nat → List (S105) → Int → Bool → Int → Int → List (S87) → Option (Int × Int × Int × Int × (List (S83)) × (List (S87)))
  | 0, _, _, _, _, _, _ => none
  | k + 1, x0, x4, x31, x284000, x284001, x284003 => if x31 = true then ((spec_l6Bad.f 3).bind fun bt288 => (some (bt288.1, bt288.2.1, bt288.2.2.1, bt288.2.2.2.1, bt288.2.2.2.2.1, bt288.2.2.2.2.2))) else (if x4 > 0 then (if 0 ≤ x4 then (if x4 < (x0.length : Int) then (if 0 ≤ (wrap64 (x4 - 1)) then (if (wrap64 (x4 - 1)) < (x0.length : Int) then (if ((rd_T105 x0 x4).f0) ≤ ((rd_T105 x0 (wrap64 (x4 - 1))).f0) then ((spec_l6Bad.f 1).bind fun bt300 => (some (bt300.1, bt300.2.1, bt300.2.2.1, bt300.2.2.2.1, bt300.2.2.2.2.1, bt300.2.2.2.2.2))) else (if x284003.length < 4398046511104 then (spec_NewEngine.l0 k x0 (wrap64 (x4 + 1)) x284000 1 (x284003 ++ [(⟨(rd_T105 x0 x4).f0, (([(⟨1, 1, false, (rd_T105 x0 x4).f1⟩ : S90)] : List (S90)))⟩ : S87)])) else (none))) else (none)) else (none)) else (none)) else (none)) else (if 0 ≤ x4 then (if x4 < (x0.length : Int) then (if x284003.length < 4398046511104 then (spec_NewEngine.l0 k x0 (wrap64 (x4 + 1)) x284000 1 (x284003 ++ [(⟨(rd_T105 x0 x4).f0, (([(⟨1, 1, false, (rd_T105 x0 x4).f1⟩ : S90)] : List (S90)))⟩ : S87)])) else (none)) else (none)) else (none)))
end
def spec_NewEngine.f (k : Nat) (l0 : List (S105)) : Option (Int × Int × Int × Int × (List (S83)) × (List (S87))) := if (l0.length : Int) > 20 then ((spec_l6Bad.f 2).bind fun bt273 => (some (bt273.1, bt273.2.1, bt273.2.2.1, bt273.2.2.2.1, bt273.2.2.2.2.1, bt273.2.2.2.2.2))) else (spec_NewEngine.l0 k l0 0 2 0 ([] : List (S87)))


/-! ### laws_toCell: function 73 -/
def laws_toCell.f (a0_0 : Int) (a0_1 : Int) : Option (Int × Int) := some (a0_0, a0_1)

/-! ### laws_toCellS: function 18 -/
def laws_toCellS.l0 : Nat → List (S107) → List (S105) → Int → Option ((List (S105)))
  | 0, _, _, _ => none
  | k + 1, x0, x3, x4 => if x4 < (x0.length : Int) then (if 0 ≤ x4 then ((laws_toCell.f ((rd_T107 x0 x4).f0) ((rd_T107 x0 x4).f1)).bind fun bt279 => (if x4 < (x3.length : Int) then (laws_toCellS.l0 k x0 (x3.set (x4 : Int).toNat (⟨bt279.1, bt279.2⟩ : S105)) (wrap64 (x4 + 1))) else (none))) else (none)) else (some x3)
def laws_toCellS.f (k : Nat) (l0 : List (S107)) : Option ((List (S105))) := if 0 ≤ (l0.length : Int) then (if ((l0.length : Int) : Int).toNat ≤ 17592186044416 then (laws_toCellS.l0 k l0 (List.replicate ((l0.length : Int) : Int).toNat z105) 0) else (none)) else (none)

/-! ### impl_cellsFault: function 74 -/
mutual
def impl_cellsFault.l0 : Nat → List (S105) → List (S105) → Int → Int → Option (Int)
  | 0, _, _, _, _ => none
  | k + 1, x0, x5, x6, x7 => if x7 < x6 then (if 0 ≤ x7 then (if x7 < (x5.length : Int) then ((impl_isKey.f ((rd_T105 x5 x7).f0)).bind fun t284 => (if t284 = true then ((impl_isValue.f ((rd_T105 x5 x7).f1)).bind fun t285 => (impl_cellsFault.j1 k x0 x7 x5 x6 x7 (!t285) ((rd_T105 x5 x7).f0) ((rd_T105 x5 x7).f1))) else (impl_cellsFault.j1 k x0 x7 x5 x6 x7 true ((rd_T105 x5 x7).f0) ((rd_T105 x5 x7).f1)))) else (none)) else (none)) else (some 0)
def impl_cellsFault.j1 : Nat → List (S105) → Int → List (S105) → Int → Int → Bool → Int → Int → Option (Int)
  | 0, _, _, _, _, _, _, _, _ => none
  | k + 1, x0, x3, x5, x6, x7, x12, x284000, x284001 => if x12 = true then (some 3) else (if x3 > 0 then (if 0 ≤ (wrap64 (x3 - 1)) then (if (wrap64 (x3 - 1)) < (x0.length : Int) then (if x284000 ≤ ((rd_T105 x0 (wrap64 (x3 - 1))).f0) then (some 1) else (impl_cellsFault.l0 k x0 x5 x6 (wrap64 (x7 + 1)))) else (none)) else (none)) else (impl_cellsFault.l0 k x0 x5 x6 (wrap64 (x7 + 1))))
end
def impl_cellsFault.f (k : Nat) (l0 : List (S105)) : Option (Int) := impl_cellsFault.l0 k l0 l0 (l0.length : Int) 0

/-! ### impl_NewEngine: function 19 -/
def impl_NewEngine.l0 : Nat → List (S105) → Int → Int → Int → Int → List (S87) → Option (Int × Int × Int × Int × (List (S83)) × (List (S87)))
  | 0, _, _, _, _, _, _ => none
  | k + 1, x18, x19, x20, x290000, x290001, x290003 => if x20 < x19 then (if 0 ≤ x20 then (if x20 < (x18.length : Int) then (if x290003.length < 4398046511104 then (impl_NewEngine.l0 k x18 x19 (wrap64 (x20 + 1)) x290000 1 (x290003 ++ [(⟨(rd_T105 x18 x20).f0, (([(⟨1, 1, false, (rd_T105 x18 x20).f1⟩ : S90)] : List (S90)))⟩ : S87)])) else (none)) else (none)) else (none)) else (some (0, 0, x290000, x290001, ([] : List (S83)), x290003))
def impl_NewEngine.f (k : Nat) (l0 : List (S105)) : Option (Int × Int × Int × Int × (List (S83)) × (List (S87))) := if (l0.length : Int) > 20 then (some (2, 0, 0, 0, ([] : List (S83)), ([] : List (S87)))) else ((impl_cellsFault.f k l0).bind fun t288 => (if t288 = 0 then (impl_NewEngine.l0 k l0 (l0.length : Int) 0 2 0 ([] : List (S87))) else (some (t288, 0, 0, 0, ([] : List (S83)), ([] : List (S87))))))

/-! ### laws_eqEngineResult: function 20 -/
def laws_eqEngineResult.f (k : Nat) (a0_0 : Int) (a0_1 : Int) (a0_2 : Int) (a0_3 : Int) (l0_4 : List (S83)) (l0_5 : List (S87)) (a1_0 : Int) (a1_1 : Int) (a1_2 : Int) (a1_3 : Int) (l1_4 : List (S83)) (l1_5 : List (S87)) : Option (Bool) := if a0_0 = a1_0 then (if a0_1 = a1_1 then ((laws_eqEngine.f k a0_2 a0_3 l0_4 l0_5 a1_2 a1_3 l1_4 l1_5).bind fun t300 => (if t300 = true then (some true) else (some false))) else (some false)) else (some false)

/-! ### laws_markEngineResult: function 23 -/
-- NEEDS Derived.Test.YtonbnmaelepcbaaLb
def laws_markEngineResult.f (k : Nat) (a0_0 a0_1 a0_2 a0_3 : Int) (l4 : List S83) (l5 : List S87) (a1 : Int) : Option (Int × List S83 × List S87) := laws_markEngine.f k a0_2 a0_3 l4 l5 a1


/-! ### laws_heldUndoS: function 144 -/
def laws_heldUndoS.l0 : Nat → List (S96) → Int → Int → Option (Int)
  | 0, _, _, _ => none
  | k + 1, x0, x1, x5 => if x5 < (x0.length : Int) then (if 0 ≤ x5 then (if ((rd_T96 x0 x5).f0) = x1 then (if (((rd_T96 x0 x5).f1) != ((Int.tmod (wrap64 (x1 + 1)) 3) == 0)) = true then (some (-1)) else (if (((rd_T96 x0 x5).f2) != ((Int.tmod (wrap64 ((wrap64 (x1 + 1)) + 1)) 3) == 0)) = true then (some (-1)) else (if ((rd_T96 x0 x5).f3) = (wrap64 ((wrap64 ((wrap64 (x1 + 1)) + 1)) + 1)) then (laws_heldUndoS.l0 k x0 (wrap64 ((wrap64 ((wrap64 ((wrap64 (x1 + 1)) + 1)) + 1)) + 1)) (wrap64 (x5 + 1))) else (some (-1))))) else (some (-1))) else (none)) else (some x1)
def laws_heldUndoS.f (k : Nat) (l0 : List (S96)) (a1 : Int) : Option (Int) := laws_heldUndoS.l0 k l0 a1 0

/-! ### laws_heldTxnS: function 124 -/
def laws_heldTxnS.l0 : Nat → List (S83) → Int → Int → Option (Int)
  | 0, _, _, _ => none
  | k + 1, x0, x1, x5 => if x5 < (x0.length : Int) then (if 0 ≤ x5 then (if ((rd_T83 x0 x5).f0) = x1 then (if ((rd_T83 x0 x5).f1) = (wrap64 (x1 + 1)) then (if ((rd_T83 x0 x5).f2) = (wrap64 ((wrap64 (x1 + 1)) + 1)) then (if ((rd_T83 x0 x5).f3) = (wrap64 ((wrap64 ((wrap64 (x1 + 1)) + 1)) + 1)) then ((laws_heldUndoS.f k ((rd_T83 x0 x5).f4) (wrap64 ((wrap64 ((wrap64 ((wrap64 (x1 + 1)) + 1)) + 1)) + 1))).bind fun t325 => (if t325 < 0 then (some (-1)) else (laws_heldTxnS.l0 k x0 t325 (wrap64 (x5 + 1))))) else (some (-1))) else (some (-1))) else (some (-1))) else (some (-1))) else (none)) else (some x1)
def laws_heldTxnS.f (k : Nat) (l0 : List (S83)) (a1 : Int) : Option (Int) := laws_heldTxnS.l0 k l0 a1 0

/-! ### laws_heldRowS: function 125 -/
def laws_heldRowS.l0 : Nat → List (S87) → Int → Int → Option (Int)
  | 0, _, _, _ => none
  | k + 1, x0, x1, x5 => if x5 < (x0.length : Int) then (if 0 ≤ x5 then (if ((rd_T87 x0 x5).f0) = x1 then ((laws_heldVersionS.f k ((rd_T87 x0 x5).f1) (wrap64 (x1 + 1))).bind fun t332 => (if t332 < 0 then (some (-1)) else (laws_heldRowS.l0 k x0 t332 (wrap64 (x5 + 1))))) else (some (-1))) else (none)) else (some x1)
def laws_heldRowS.f (k : Nat) (l0 : List (S87)) (a1 : Int) : Option (Int) := laws_heldRowS.l0 k l0 a1 0

/-! ### laws_heldEngine: function 76 -/
def laws_heldEngine.f (k : Nat) (a0_0 : Int) (a0_1 : Int) (l0_2 : List (S83)) (l0_3 : List (S87)) (a1 : Int) : Option (Int) := (laws_heldTxnS.f k l0_2 a1).bind fun t334 => (if t334 < 0 then (some (-1)) else ((laws_heldRowS.f k l0_3 t334).bind fun t335 => (if t335 < 0 then (some (-1)) else (some t335))))

/-! ### laws_heldEngineResult: function 24 -/
def laws_heldEngineResult.f (k : Nat) (a0_0 : Int) (a0_1 : Int) (a0_2 : Int) (a0_3 : Int) (l0_4 : List (S83)) (l0_5 : List (S87)) (a1 : Int) : Option (Int) := (laws_heldEngine.f k a0_2 a0_3 l0_4 l0_5 a1).bind fun t337 => (if t337 < 0 then (some (-1)) else (some t337))

/-! ### laws_FnExactNewEngine: function 4 -/
-- NEEDS Derived.Test.YtonbnmaelepcbaaLb
/-- The law, told once for all that is computed twice. -/
def laws_FnExactNewEngine.f (k : Nat) (l0 : List S107) : Option Bool :=
  (laws_szCellS.f l0 1048576).bind fun t => if t < 0 then some true else
  (laws_toCellS.f k l0).bind fun x => (spec_NewEngine.f k x).bind fun s => (impl_NewEngine.f k x).bind fun g =>
  (laws_eqEngineResult.f k g.1 g.2.1 g.2.2.1 g.2.2.2.1 g.2.2.2.2.1 g.2.2.2.2.2 s.1 s.2.1 s.2.2.1 s.2.2.2.1 s.2.2.2.2.1 s.2.2.2.2.2).bind fun q1 => if q1 = true then
    (laws_eqCellS.f k x x).bind fun q2 => if q2 = true then
      (laws_markCellS.f k x 1).bind fun m => if m.1 < 0 then some false else
      (laws_markEngineResult.f k g.1 g.2.1 g.2.2.1 g.2.2.2.1 g.2.2.2.2.1 g.2.2.2.2.2 1).bind fun n => (laws_heldEngineResult.f k g.1 g.2.1 g.2.2.1 g.2.2.2.1 n.2.1 n.2.2 1).bind fun q3 => if q3 < 0 then some false else if q3 = n.1 then some true else some false
    else some false
  else some false


end Go.Proofs.Ytonbnmaelepcbaa.P
