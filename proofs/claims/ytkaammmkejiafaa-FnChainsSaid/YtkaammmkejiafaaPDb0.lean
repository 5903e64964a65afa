-- Printed by this session's own program over the kit's print (wip/tools/mp.py). Not trusted: Lean checks it.
import Derived.Test.YtkaammmkejiafaaP0
import Derived.Test.YtkaammmkejiafaaPDall0
namespace Go.Proofs.Ytkaammmkejiafaa.P
open Go.RowKit Go.Proofs.YtkaammmkejiafaaW.PrintWords Go.Proofs.YtkaammmkejiafaaW.PrintLast Go.Proofs.YtkaammmkejiafaaW.PrintMore
attribute [local go_sem] max2_int min2_int max_two min_two max_three min_three max_four min_four   -- for this text's walks alone
set_option linter.unusedVariables false
set_option linter.unusedSimpArgs false

/-! ### spec_l5DrawView: function 49 -/
def spec_l5DrawView.f (s0_0 : List Int) (s0_1 : Int) : Option (Int × Int × Int) := (spec_l1Next.f s0_0 s0_1 40).bind fun bt324 => ((spec_l1Next.f s0_0 bt324.2 40).bind fun bt326 => ((spec_l1Pick.f s0_0 bt326.2 (([wrap64 (30 + bt324.1), wrap64 (30 + bt326.1), 0, 1000000, 1000001, (-1)] : List Int))).bind fun bt331 => ((spec_l1Next.f s0_0 bt331.2 7).bind fun bt333 => ((spec_l1Next.f s0_0 bt333.2 7).bind fun bt335 => ((spec_l1Pick.f s0_0 bt335.2 (([bt333.1, bt335.1, 1, 999, 1000] : List Int))).bind fun bt340 => (some (bt331.1, bt340.1, bt340.2)))))))

/-! ### spec_l5With: function 33 -/
def spec_l5With.f (k : Nat) (l0 : List Int) : Option ((List (S51)) × Int × Int) := (spec_l1Source.f l0).bind fun bt343 => ((spec_l5Bent.f k bt343.1 bt343.2).bind fun bt346 => ((spec_l5DrawView.f bt343.1 bt346.2).bind fun bt350 => (if (bt346.1.length : Int) > 0 then (if 0 < (bt346.1.length : Int) then (if ((rd_T51 bt346.1 0).f1) = 0 then ((spec_l1Chance.f bt343.1 bt350.2.2 2).bind fun bt355 => (if bt355.1 = true then (some (bt346.1, bt350.1, (rd_T51 bt346.1 0).f0)) else (some (bt346.1, bt350.1, bt350.2.1)))) else (some (bt346.1, bt350.1, bt350.2.1))) else (none)) else (some (bt346.1, bt350.1, bt350.2.1)))))

/-! ### spec_l1Max: function 35 -/
def spec_l1Max.f (a0 : Int) (a1 : Int) : Option (Int) := if a0 > a1 then (some a0) else (some a1)

/-! ### spec_l5Writer: function 36 -/
def spec_l5Writer.f (l0 : List (S51)) : Option (Int) := if (l0.length : Int) > 0 then (if 0 < (l0.length : Int) then (if ((rd_T51 l0 0).f1) = 0 then (some ((rd_T51 l0 0).f0)) else (some 0)) else (none)) else (some 0)

/-! ### spec_DrawPushVersion: function 12 -/
def spec_DrawPushVersion.j0 : Nat → List (S51) → List Int → Int → Int → Int → Option ((List (S51)) × Int × Int × Bool × Int)
  | 0, _, _, _, _, _ => none
  | k + 1, x7, x364000, x364001, x370000, x370001 => (spec_l1Chance.f x364000 x364001 4).bind fun bt374 => (if bt374.1 = true then ((spec_l1Pick.f x364000 bt374.2 (([0, 0, 0, 5] : List Int))).bind fun bt379 => (some (x7, x370000, x370001, true, bt379.1))) else ((spec_l1Next.f x364000 bt374.2 90).bind fun bt381 => ((spec_l1Pick.f x364000 bt381.2 (([bt381.1, 9999, 10000, (-1)] : List Int))).bind fun bt386 => (some (x7, x370000, x370001, false, bt386.1)))))
def spec_DrawPushVersion.f (k : Nat) (l0 : List Int) : Option ((List (S51)) × Int × Int × Bool × Int) := (spec_l1Source.f l0).bind fun bt361 => ((spec_l5With.f k l0).bind fun bt364 => ((spec_l1Chance.f bt361.1 bt361.2 2).bind fun bt370 => (if bt370.1 = true then ((spec_l5Writer.f bt364.1).bind fun t372 => ((spec_l1Max.f 1 t372).bind fun t373 => (spec_DrawPushVersion.j0 k bt364.1 bt361.1 bt370.2 900 t373))) else (spec_DrawPushVersion.j0 k bt364.1 bt361.1 bt370.2 bt364.2.1 bt364.2.2))))

/-! ### slices_Clone_impl_Version: function 37 -/
def slices_Clone_impl_Version.f (l0 : List (S51)) : Option ((List (S51))) := (some (([] : List (S51)) : List (S51))).bind fun y388 => (if y388.length + l0.length < 4398046511104 then (some (y388 ++ l0)) else (none))

/-! ### impl_PushVersion: function 13 -/
mutual
def impl_PushVersion.j0 : Nat → List (S51) → Bool → Int → Int → Int → Int → Option (Int × (List (S51)))
  | 0, _, _, _, _, _, _ => none
  | k + 1, x0, x2, x3, x9, x395000, x395001 => if x9 = 0 then (if (x0.length : Int) > 0 then (if 0 < (x0.length : Int) then (impl_PushVersion.j1 k x0 (((rd_T51 x0 0).f1) == 0) x395001 0 x2 x3) else (none)) else (impl_PushVersion.j1 k x0 false x395001 0 x2 x3)) else (some (x9, ([] : List (S51))))
def impl_PushVersion.j1 : Nat → List (S51) → Bool → Int → Int → Bool → Int → Option (Int × (List (S51)))
  | 0, _, _, _, _, _, _ => none
  | k + 1, x0, x49, x401000, x401001, x401002, x401003 => if x49 = true then ((slices_Clone_impl_Version.f x0).bind fun t402 => (if 0 < (t402.length : Int) then (some (0, (t402.set (0 : Int).toNat (⟨x401000, x401001, x401002, x401003⟩ : S51)))) else (none))) else (if (x0.length : Int) = 12 then (some (2, ([] : List (S51)))) else ((some (([(⟨x401000, x401001, x401002, x401003⟩ : S51)] : List (S51)) : List (S51))).bind fun y406 => (if y406.length + x0.length < 4398046511104 then (some (0, (y406 ++ x0))) else (none))))
end
def impl_PushVersion.f (k : Nat) (l0 : List (S51)) (a1_0 : Int) (a1_1 : Int) (a2 : Bool) (a3 : Int) : Option (Int × (List (S51))) := (impl_viewCode.f k l0 a1_0 a1_1).bind fun t396 => (if t396 = 0 then ((impl_isValue.f a3).bind fun t397 => (if t397 = true then (if a2 = true then (if a3 = 0 then ((impl_MayWrite.f k l0 a1_0 a1_1).bind fun t398 => (impl_PushVersion.j0 k l0 a2 a3 t398 a1_0 a1_1)) else (impl_PushVersion.j0 k l0 a2 a3 1 a1_0 a1_1)) else ((impl_MayWrite.f k l0 a1_0 a1_1).bind fun t399 => (impl_PushVersion.j0 k l0 a2 a3 t399 a1_0 a1_1))) else (impl_PushVersion.j0 k l0 a2 a3 3 a1_0 a1_1))) else (impl_PushVersion.j0 k l0 a2 a3 t396 a1_0 a1_1))

/-! ### spec_l5View: function 50 -/
def spec_l5View.f (a0_0 : Int) (a0_1 : Int) : Option (Bool) := (spec_l1In.f a0_0 0 1000000).bind fun t413 => (if t413 = true then ((spec_l1In.f a0_1 0 999).bind fun t414 => (some t414)) else (some false))

/-! ### spec_l5Asked: function 38 -/
def spec_l5Asked.f (k : Nat) (l0 : List (S51)) (a1_0 : Int) (a1_1 : Int) : Option (Int) := (spec_ChainFault.f k l0).bind fun t416 => (if t416 = 0 then ((spec_l5View.f a1_0 a1_1).bind fun t417 => (if t417 = true then (some 0) else (some 3))) else (some t416))

/-! ### spec_l5May: function 51 -/
def spec_l5May.f (l0 : List (S51)) (a1_0 : Int) (a1_1 : Int) : Option (Bool) := if (l0.length : Int) = 0 then (some true) else (if 0 < (l0.length : Int) then (if ((rd_T51 l0 0).f1) = 0 then (some (((rd_T51 l0 0).f0) == a1_1)) else (some (decide (((rd_T51 l0 0).f1) ≤ a1_0)))) else (none))

/-! ### spec_MayWrite: function 40 -/
def spec_MayWrite.f (k : Nat) (l0 : List (S51)) (a1_0 : Int) (a1_1 : Int) : Option (Int) := (spec_l5Asked.f k l0 a1_0 a1_1).bind fun t423 => (if t423 = 0 then (if a1_1 = 0 then (some 3) else ((spec_l5May.f l0 a1_0 a1_1).bind fun t424 => (if t424 = true then (some 0) else (some 9)))) else (some t423))

/-! ### spec_l5Copy: function 46 -/
def spec_l5Copy.f (l0 : List (S51)) : Option ((List (S51))) := (some (([] : List (S51)) : List (S51))).bind fun y425 => (if y425.length + l0.length < 4398046511104 then (some (y425 ++ l0)) else (none))

/-! ### spec_l5Push: function 41 -/
def spec_l5Push.f (l0 : List (S51)) (a1 : Int) (a2 : Bool) (a3 : Int) : Option ((List (S51)) × Int) := (spec_l5Writer.f l0).bind fun t432 => (if t432 = a1 then ((spec_l5Copy.f l0).bind fun t433 => (if 0 < (t433.length : Int) then (some ((t433.set (0 : Int).toNat (⟨a1, 0, a2, a3⟩ : S51)), 0)) else (none))) else (if (l0.length : Int) ≥ 12 then (some (l0, 2)) else ((some (([(⟨a1, 0, a2, a3⟩ : S51)] : List (S51)) : List (S51))).bind fun y437 => (if y437.length + l0.length < 4398046511104 then (some ((y437 ++ l0), 0)) else (none)))))

/-! ### spec_PushVersion: function 14 -/
def spec_PushVersion.j0 : Nat → List (S51) → Bool → Int → Bool → Int → Int → Option (Int × (List (S51)))
  | 0, _, _, _, _, _, _ => none
  | k + 1, x0, x2, x3, x28, x444000, x444001 => if x28 = true then (some (1, ([] : List (S51)))) else ((spec_MayWrite.f k x0 x444000 x444001).bind fun t447 => (if t447 = 0 then ((spec_l5Push.f x0 x444001 x2 x3).bind fun bt448 => (if bt448.2 = 0 then (some (0, bt448.1)) else (some (bt448.2, ([] : List (S51)))))) else (some (t447, ([] : List (S51))))))
def spec_PushVersion.f (k : Nat) (l0 : List (S51)) (a1_0 : Int) (a1_1 : Int) (a2 : Bool) (a3 : Int) : Option (Int × (List (S51))) := (spec_l5Asked.f k l0 a1_0 a1_1).bind fun t445 => (if t445 = 0 then ((spec_l1Value.f a3).bind fun t446 => (if t446 = true then (if a2 = true then (spec_PushVersion.j0 k l0 a2 a3 (a3 != 0) a1_0 a1_1) else (spec_PushVersion.j0 k l0 a2 a3 false a1_0 a1_1)) else (some (3, ([] : List (S51)))))) else (some (t445, ([] : List (S51)))))

/-! ### impl_WriterOf: function 15 -/
def impl_WriterOf.f (k : Nat) (l0 : List (S51)) : Option (Int × Int) := (impl_ChainFault.f k l0).bind fun t453 => (if t453 = 0 then (if (l0.length : Int) = 0 then (some (4, 0)) else (if 0 < (l0.length : Int) then (if ((rd_T51 l0 0).f1) = 0 then (some (0, (rd_T51 l0 0).f0)) else (some (4, 0))) else (none))) else (some (t453, 0)))

/-! ### impl_isOpenOf: function 43 -/
def impl_isOpenOf.f (l0 : List (S51)) (a1 : Int) : Option (Bool) := if (l0.length : Int) > 0 then (if 0 < (l0.length : Int) then (if ((rd_T51 l0 0).f1) = 0 then (some (((rd_T51 l0 0).f0) == a1)) else (some false)) else (none)) else (some false)

/-! ### impl_CommitChain: function 16 -/
mutual
def impl_CommitChain.j0 : Nat → List (S51) → Int → Int → Int → Bool → Option (Int × (List (S51)))
  | 0, _, _, _, _, _ => none
  | k + 1, x0, x1, x2, x7, x14 => if x14 = true then (some (3, ([] : List (S51)))) else ((impl_isOpenOf.f x0 x1).bind fun t462 => (if t462 = true then (if (x0.length : Int) > 1 then (if 1 < (x0.length : Int) then (impl_CommitChain.j1 k x0 x2 x7 (decide (x2 ≤ ((rd_T51 x0 1).f1)))) else (none)) else (impl_CommitChain.j1 k x0 x2 x7 false)) else (some (4, ([] : List (S51))))))
def impl_CommitChain.j1 : Nat → List (S51) → Int → Int → Bool → Option (Int × (List (S51)))
  | 0, _, _, _, _ => none
  | k + 1, x0, x2, x7, x28 => if x28 = true then (some (1, ([] : List (S51)))) else (if x7 = 0 then ((slices_Clone_impl_Version.f x0).bind fun t464 => (if 0 < (t464.length : Int) then (some (0, (t464.set (0 : Int).toNat (⟨(rd_T51 t464 0).f0, x2, (rd_T51 t464 0).f2, (rd_T51 t464 0).f3⟩ : S51)))) else (none))) else (some (x7, ([] : List (S51)))))
end
def impl_CommitChain.f (k : Nat) (l0 : List (S51)) (a1 : Int) (a2 : Int) : Option (Int × (List (S51))) := (impl_ChainFault.f k l0).bind fun t459 => (if t459 = 0 then ((impl_isTxn.f a1).bind fun t460 => (if t460 = true then ((impl_within.f a2 1 1000000).bind fun t461 => (impl_CommitChain.j0 k l0 a1 a2 t459 (!t461))) else (impl_CommitChain.j0 k l0 a1 a2 t459 true))) else (some (t459, ([] : List (S51)))))

/-! ### spec_CommitChain: function 17 -/
def spec_CommitChain.j0 : Nat → List (S51) → Int → Int → Bool → Option (Int × (List (S51)))
  | 0, _, _, _, _ => none
  | k + 1, x0, x1, x2, x22 => if x22 = true then (some (3, ([] : List (S51)))) else ((spec_l5Writer.f x0).bind fun t472 => (if t472 = x1 then (if (x0.length : Int) > 1 then (if 1 < (x0.length : Int) then (if ((rd_T51 x0 1).f1) ≥ x2 then (some (1, ([] : List (S51)))) else ((spec_l5Copy.f x0).bind fun t474 => (if 0 < (t474.length : Int) then (some (0, (t474.set (0 : Int).toNat (⟨(rd_T51 t474 0).f0, x2, (rd_T51 t474 0).f2, (rd_T51 t474 0).f3⟩ : S51)))) else (none)))) else (none)) else ((spec_l5Copy.f x0).bind fun t478 => (if 0 < (t478.length : Int) then (some (0, (t478.set (0 : Int).toNat (⟨(rd_T51 t478 0).f0, x2, (rd_T51 t478 0).f2, (rd_T51 t478 0).f3⟩ : S51)))) else (none)))) else (some (4, ([] : List (S51))))))
def spec_CommitChain.f (k : Nat) (l0 : List (S51)) (a1 : Int) (a2 : Int) : Option (Int × (List (S51))) := (spec_ChainFault.f k l0).bind fun t469 => (if t469 = 0 then ((spec_l5Txn.f a1).bind fun t470 => (if t470 = true then ((spec_l5At.f a2).bind fun t471 => (spec_CommitChain.j0 k l0 a1 a2 (!t471))) else (spec_CommitChain.j0 k l0 a1 a2 true))) else (some (t469, ([] : List (S51)))))

/-! ### impl_RollChain: function 18 -/
def impl_RollChain.f (k : Nat) (l0 : List (S51)) (a1 : Int) : Option (Int × (List (S51))) := (impl_ChainFault.f k l0).bind fun t483 => (if t483 = 0 then ((impl_isTxn.f a1).bind fun t484 => (if t484 = true then ((impl_isOpenOf.f l0 a1).bind fun t485 => (if t485 = true then (if 1 ≤ (l0.length : Int) then ((slices_Clone_impl_Version.f (l0.drop 1)).bind fun t490 => (some (0, t490))) else (none)) else (some (4, ([] : List (S51)))))) else (some (3, ([] : List (S51)))))) else (some (t483, ([] : List (S51)))))

/-! ### laws_FnChains: function 4 -/
def laws_FnChains.j0 : Nat → List (S51) → Bool → Int → Bool → Int → Int → Int → List (S51) → Int → Int → Option (Bool)
  | 0, _, _, _, _, _, _, _, _, _, _ => none
  | k + 1, x3, x5, x6, x99, x502000, x502001, x507000, x507001, x518000, x518001 => if x99 = true then (some false) else ((impl_CommitChain.f k x507001 x502001 (wrap64 (x502000 + 1))).bind fun bt529 => (if bt529.1 = 0 then ((impl_SeenIn.f k bt529.2 (wrap64 (x502000 + 1)) x518001).bind fun bt538 => ((impl_RollChain.f k x507001 x502001).bind fun bt541 => ((impl_SeenIn.f k bt529.2 x518000 x518001).bind fun bt546 => ((impl_SeenIn.f k x3 x518000 x518001).bind fun bt548 => (if (bt546.1 == bt548.1 && (bt546.2 == bt548.2)) = true then (if (x5 == (bt538.1 == 4)) = true then (if x5 = true then ((impl_MayWrite.f k bt529.2 x518000 x518001).bind fun t550 => (if t550 = 9 then ((impl_ChainFault.f k bt529.2).bind fun t551 => (if t551 = 0 then (if bt541.1 = 0 then ((impl_SeenIn.f k bt541.2 x518000 x518001).bind fun bt552 => ((impl_SeenIn.f k x3 x518000 x518001).bind fun bt554 => (some (bt552.1 == bt554.1 && (bt552.2 == bt554.2))))) else (some false)) else (some false))) else (some false))) else (if bt538.2 = x6 then ((impl_MayWrite.f k bt529.2 x518000 x518001).bind fun t556 => (if t556 = 9 then ((impl_ChainFault.f k bt529.2).bind fun t557 => (if t557 = 0 then (if bt541.1 = 0 then ((impl_SeenIn.f k bt541.2 x518000 x518001).bind fun bt558 => ((impl_SeenIn.f k x3 x518000 x518001).bind fun bt560 => (some (bt558.1 == bt560.1 && (bt558.2 == bt560.2))))) else (some false)) else (some false))) else (some false))) else (some false))) else (some false)) else (some false)))))) else ((spec_CommitChain.f k x507001 x502001 (wrap64 (x502000 + 1))).bind fun bt534 => (some (bt534.1 == bt529.1)))))
def laws_FnChains.f (k : Nat) (l0 : List Int) : Option (Bool) := (laws_lwBig.f l0).bind fun t493 => (if t493 = true then (some true) else ((spec_DrawPushVersion.f k l0).bind fun bt494 => ((impl_PushVersion.f k bt494.1 bt494.2.1 bt494.2.2.1 bt494.2.2.2.1 bt494.2.2.2.2).bind fun bt502 => (if bt502.1 = 0 then ((impl_SeenIn.f k bt502.2 bt494.2.1 bt494.2.2.1).bind fun bt511 => ((impl_WriterOf.f k bt502.2).bind fun bt514 => ((impl_ChainFault.f k bt502.2).bind fun t518 => (if t518 = 0 then (if (bt494.2.2.2.1 != (bt511.1 == 4)) = true then (laws_FnChains.j0 k bt494.1 bt494.2.2.2.1 bt494.2.2.2.2 true bt494.2.1 bt494.2.2.1 bt502.1 bt502.2 bt494.2.1 (wrap64 ((Int.tmod bt494.2.2.1 900) + 1))) else (if bt494.2.2.2.1 = true then (if bt514.2 = bt494.2.2.1 then ((impl_MayWrite.f k bt502.2 bt494.2.1 (wrap64 ((Int.tmod bt494.2.2.1 900) + 1))).bind fun t519 => (if t519 = 9 then ((impl_SeenIn.f k bt502.2 bt494.2.1 (wrap64 ((Int.tmod bt494.2.2.1 900) + 1))).bind fun bt520 => ((impl_SeenIn.f k bt494.1 bt494.2.1 (wrap64 ((Int.tmod bt494.2.2.1 900) + 1))).bind fun bt522 => (laws_FnChains.j0 k bt494.1 bt494.2.2.2.1 bt494.2.2.2.2 (!(bt520.1 == bt522.1) || (!(bt520.2 == bt522.2))) bt494.2.1 bt494.2.2.1 bt502.1 bt502.2 bt494.2.1 (wrap64 ((Int.tmod bt494.2.2.1 900) + 1))))) else (laws_FnChains.j0 k bt494.1 bt494.2.2.2.1 bt494.2.2.2.2 true bt494.2.1 bt494.2.2.1 bt502.1 bt502.2 bt494.2.1 (wrap64 ((Int.tmod bt494.2.2.1 900) + 1))))) else (laws_FnChains.j0 k bt494.1 bt494.2.2.2.1 bt494.2.2.2.2 true bt494.2.1 bt494.2.2.1 bt502.1 bt502.2 bt494.2.1 (wrap64 ((Int.tmod bt494.2.2.1 900) + 1)))) else (if bt511.2 = bt494.2.2.2.2 then (if bt514.2 = bt494.2.2.1 then ((impl_MayWrite.f k bt502.2 bt494.2.1 (wrap64 ((Int.tmod bt494.2.2.1 900) + 1))).bind fun t524 => (if t524 = 9 then ((impl_SeenIn.f k bt502.2 bt494.2.1 (wrap64 ((Int.tmod bt494.2.2.1 900) + 1))).bind fun bt525 => ((impl_SeenIn.f k bt494.1 bt494.2.1 (wrap64 ((Int.tmod bt494.2.2.1 900) + 1))).bind fun bt527 => (laws_FnChains.j0 k bt494.1 bt494.2.2.2.1 bt494.2.2.2.2 (!(bt525.1 == bt527.1) || (!(bt525.2 == bt527.2))) bt494.2.1 bt494.2.2.1 bt502.1 bt502.2 bt494.2.1 (wrap64 ((Int.tmod bt494.2.2.1 900) + 1))))) else (laws_FnChains.j0 k bt494.1 bt494.2.2.2.1 bt494.2.2.2.2 true bt494.2.1 bt494.2.2.1 bt502.1 bt502.2 bt494.2.1 (wrap64 ((Int.tmod bt494.2.2.1 900) + 1))))) else (laws_FnChains.j0 k bt494.1 bt494.2.2.2.1 bt494.2.2.2.2 true bt494.2.1 bt494.2.2.1 bt502.1 bt502.2 bt494.2.1 (wrap64 ((Int.tmod bt494.2.2.1 900) + 1)))) else (laws_FnChains.j0 k bt494.1 bt494.2.2.2.1 bt494.2.2.2.2 true bt494.2.1 bt494.2.2.1 bt502.1 bt502.2 bt494.2.1 (wrap64 ((Int.tmod bt494.2.2.1 900) + 1)))))) else (laws_FnChains.j0 k bt494.1 bt494.2.2.2.1 bt494.2.2.2.2 true bt494.2.1 bt494.2.2.1 bt502.1 bt502.2 bt494.2.1 (wrap64 ((Int.tmod bt494.2.2.1 900) + 1))))))) else ((spec_PushVersion.f k bt494.1 bt494.2.1 bt494.2.2.1 bt494.2.2.2.1 bt494.2.2.2.2).bind fun bt507 => (some (bt507.1 == bt502.1)))))))

end Go.Proofs.Ytkaammmkejiafaa.P
