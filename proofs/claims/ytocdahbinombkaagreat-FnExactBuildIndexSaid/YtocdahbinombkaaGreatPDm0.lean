-- Printed by this session's own program over the kit's print (wip/tools/mp.py). Not trusted: Lean checks it.
import Derived.Test.YtocdahbinombkaaGreatP0
import Derived.Test.YtocdahbinombkaaGreatPDall0
import Derived.Test.YtocdahbinombkaaGreatLb
namespace Go.Proofs.YtocdahbinombkaaGreat.P
open Go.RowKit Go.Proofs.YtocdahbinombkaaGreatW.PrintWords Go.Proofs.YtocdahbinombkaaGreatW.PrintLast Go.Proofs.YtocdahbinombkaaGreatW.PrintMore
attribute [local go_sem] max2_int min2_int max_two min_two max_three min_three max_four min_four   -- for this text's walks alone
set_option linter.unusedVariables false
set_option linter.unusedSimpArgs false

/-! ### laws_szPairS: function 6 -/
def laws_szPairS.f (l0 : List (S59)) (a1 : Int) : Option (Int) := if (wrap64 (a1 - (l0.length : Int))) < 0 then (some (-1)) else (some (wrap64 (a1 - (l0.length : Int))))

/-! ### spec_PairsFault: function 22 -/
mutual
def spec_PairsFault.l0 : Nat → List (S55) → Int → Option (Int)
  | 0, _, _ => none
  | k + 1, x0, x3 => if x3 < (x0.length : Int) then (if 0 ≤ x3 then ((spec_l1Value.f ((rd_T55 x0 x3).f0)).bind fun t131 => (if t131 = true then ((spec_l1Key.f ((rd_T55 x0 x3).f1)).bind fun t133 => (spec_PairsFault.j1 k x0 x3 (!t133))) else (spec_PairsFault.j1 k x0 x3 true))) else (none)) else (some 0)
def spec_PairsFault.j1 : Nat → List (S55) → Int → Bool → Option (Int)
  | 0, _, _, _ => none
  | k + 1, x0, x3, x28 => if x28 = true then (some 3) else (if x3 > 0 then (if 0 ≤ (wrap64 (x3 - 1)) then (if (wrap64 (x3 - 1)) < (x0.length : Int) then (if 0 ≤ x3 then (if x3 < (x0.length : Int) then ((spec_l8Behind.f ((rd_T55 x0 (wrap64 (x3 - 1))).f0) ((rd_T55 x0 (wrap64 (x3 - 1))).f1) ((rd_T55 x0 x3).f0) ((rd_T55 x0 x3).f1)).bind fun t136 => (if t136 = true then (spec_PairsFault.l0 k x0 (wrap64 (x3 + 1))) else (some 1))) else (none)) else (none)) else (none)) else (none)) else (spec_PairsFault.l0 k x0 (wrap64 (x3 + 1))))
end
def spec_PairsFault.f (k : Nat) (l0 : List (S55)) : Option (Int) := if (l0.length : Int) > 400 then (some 2) else (spec_PairsFault.l0 k l0 0)

/-! ### spec_l8Has: function 24 -/
def spec_l8Has.l0 : Nat → List (S55) → Int → Int → Int → Option (Bool)
  | 0, _, _, _, _ => none
  | k + 1, x0, x5, x194000, x194001 => if x5 < (x0.length : Int) then (if 0 ≤ x5 then (if (((rd_T55 x0 x5).f0) == x194000 && (((rd_T55 x0 x5).f1) == x194001)) = true then (some true) else (spec_l8Has.l0 k x0 (wrap64 (x5 + 1)) x194000 x194001)) else (none)) else (some false)
def spec_l8Has.f (k : Nat) (l0 : List (S55)) (a1_0 : Int) (a1_1 : Int) : Option (Bool) := spec_l8Has.l0 k l0 0 a1_0 a1_1

/-! ### spec_IndexFault: function 7 -/
def spec_IndexFault.l0 : Nat → List (S55) → List (S55) → Int → Option (Int)
  | 0, _, _, _ => none
  | k + 1, x1, x7, x8 => if x8 < (x7.length : Int) then (if 0 ≤ x8 then ((spec_l8Has.f k x1 ((rd_T55 x7 x8).f0) ((rd_T55 x7 x8).f1)).bind fun t202 => (if t202 = true then (spec_IndexFault.l0 k x1 x7 (wrap64 (x8 + 1))) else (some 4))) else (none)) else (some 0)
def spec_IndexFault.f (k : Nat) (a0_0 : Int) (a0_1 : Int) (l0_2 : List (S84)) (l0_3 : List (S87)) (l1 : List (S55)) : Option (Int) := (spec_l6Fault.f k a0_0 a0_1 l0_2 l0_3).bind fun t196 => (if t196 = 0 then ((spec_PairsFault.f k l1).bind fun t197 => (if t197 = 0 then ((spec_l8Build.f k a0_0 a0_1 l0_2 l0_3).bind fun t198 => (spec_IndexFault.l0 k l1 t198 0)) else (some t197))) else (some t196))

/-! ### laws_toPair: function 27 -/
def laws_toPair.f (a0_0 : Int) (a0_1 : Int) : Option (Int × Int) := some (a0_0, a0_1)

/-! ### laws_toPairS: function 9 -/
def laws_toPairS.l0 : Nat → List (S59) → List (S55) → Int → Option ((List (S55)))
  | 0, _, _, _ => none
  | k + 1, x0, x3, x4 => if x4 < (x0.length : Int) then (if 0 ≤ x4 then ((laws_toPair.f ((rd_T59 x0 x4).f0) ((rd_T59 x0 x4).f1)).bind fun bt276 => (if x4 < (x3.length : Int) then (laws_toPairS.l0 k x0 (x3.set (x4 : Int).toNat (⟨bt276.1, bt276.2⟩ : S55)) (wrap64 (x4 + 1))) else (none))) else (none)) else (some x3)
def laws_toPairS.f (k : Nat) (l0 : List (S59)) : Option ((List (S55))) := if 0 ≤ (l0.length : Int) then (if ((l0.length : Int) : Int).toNat ≤ 17592186044416 then (laws_toPairS.l0 k l0 (List.replicate ((l0.length : Int) : Int).toNat z55) 0) else (none)) else (none)

/-! ### impl_PairsFault: function 29 -/
mutual
def impl_PairsFault.l0 : Nat → List (S55) → List (S55) → Int → Int → Option (Int)
  | 0, _, _, _, _ => none
  | k + 1, x0, x8, x9, x10 => if x10 < x9 then (if 0 ≤ x10 then (if x10 < (x8.length : Int) then ((impl_isValue.f ((rd_T55 x8 x10).f0)).bind fun t309 => (if t309 = true then ((impl_isKey.f ((rd_T55 x8 x10).f1)).bind fun t310 => (impl_PairsFault.j1 k x0 x10 x8 x9 x10 (!t310) ((rd_T55 x8 x10).f0) ((rd_T55 x8 x10).f1))) else (impl_PairsFault.j1 k x0 x10 x8 x9 x10 true ((rd_T55 x8 x10).f0) ((rd_T55 x8 x10).f1)))) else (none)) else (none)) else (some 0)
def impl_PairsFault.j1 : Nat → List (S55) → Int → List (S55) → Int → Int → Bool → Int → Int → Option (Int)
  | 0, _, _, _, _, _, _, _, _ => none
  | k + 1, x0, x3, x8, x9, x10, x15, x309000, x309001 => if x15 = true then (some 3) else (if x3 > 0 then (if 0 ≤ (wrap64 (x3 - 1)) then (if (wrap64 (x3 - 1)) < (x0.length : Int) then ((impl_comparePairs.f k x309000 x309001 ((rd_T55 x0 (wrap64 (x3 - 1))).f0) ((rd_T55 x0 (wrap64 (x3 - 1))).f1)).bind fun t312 => (if t312 ≤ 0 then (some 1) else (impl_PairsFault.l0 k x0 x8 x9 (wrap64 (x10 + 1))))) else (none)) else (none)) else (impl_PairsFault.l0 k x0 x8 x9 (wrap64 (x10 + 1))))
end
def impl_PairsFault.f (k : Nat) (l0 : List (S55)) : Option (Int) := if (l0.length : Int) > 400 then (some 2) else (impl_PairsFault.l0 k l0 l0 (l0.length : Int) 0)

/-! ### slices_IndexFunc_impl_Pair: function 71 -/

/-! ### slices_ContainsFunc_impl_Pair: function 30 -/

/-! ### impl_IndexFault: function 10 -/
def impl_IndexFault.f (k : Nat) (a0_0 a0_1 : Int) (l0_2 : List S84) (l0_3 : List S87) (l1 : List S55) : Option Int := (impl_EngineFault.f k a0_0 a0_1 l0_2 l0_3).bind fun flt => if flt = 0 then ((impl_PairsFault.f k l1).bind fun c => if c = 0 then ((impl_Engine_pairs.f k a0_0 a0_1 l0_2 l0_3).bind fun ps => some (if (ps.any fun x => !(l1.any fun y => x.f0 == y.f0 && (x.f1 == y.f1))) = true then 4 else 0)) else some c) else some flt

/-! ### laws_FnExactIndexFault: function 3 -/
def laws_FnExactIndexFault.f (k : Nat) (a0_0 : Int) (a0_1 : Int) (l0_2 : List (S73)) (l0_3 : List (S77)) (l1 : List (S59)) : Option (Bool) := (laws_szEngine.f k a0_0 a0_1 l0_2 l0_3 1048576).bind fun t360 => (if t360 < 0 then (some true) else ((laws_szPairS.f l1 t360).bind fun t361 => (if t361 < 0 then (some true) else ((laws_toEngine.f k a0_0 a0_1 l0_2 l0_3).bind fun bt362 => ((laws_toPairS.f k l1).bind fun t370 => ((spec_IndexFault.f k bt362.1 bt362.2.1 bt362.2.2.1 bt362.2.2.2 t370).bind fun t373 => ((laws_toEngine.f k a0_0 a0_1 l0_2 l0_3).bind fun bt374 => ((laws_toPairS.f k l1).bind fun t383 => ((impl_IndexFault.f k bt374.1 bt374.2.1 bt374.2.2.1 bt374.2.2.2 t383).bind fun t386 => (if t386 = t373 then ((laws_toEngine.f k a0_0 a0_1 l0_2 l0_3).bind fun bt387 => ((laws_eqEngine.f k bt374.1 bt374.2.1 bt374.2.2.1 bt374.2.2.2 bt387.1 bt387.2.1 bt387.2.2.1 bt387.2.2.2).bind fun t395 => (if t395 = true then ((laws_toPairS.f k l1).bind fun t396 => ((laws_eqPairS.f k t383 t396).bind fun t399 => (if t399 = true then (some true) else (some false)))) else (some false)))) else (some false)))))))))))

/-! ### spec_BuildIndex: function 13 -/
def spec_BuildIndex.f (k : Nat) (a0_0 : Int) (a0_1 : Int) (l0_2 : List (S84)) (l0_3 : List (S87)) : Option (Int × (List (S55))) := (spec_l6Fault.f k a0_0 a0_1 l0_2 l0_3).bind fun t402 => (if t402 = 0 then ((spec_l8Build.f k a0_0 a0_1 l0_2 l0_3).bind fun t403 => (some (0, t403))) else (some (t402, ([] : List (S55)))))

/-! ### impl_BuildIndex: function 14 -/
def impl_BuildIndex.f (k : Nat) (a0_0 : Int) (a0_1 : Int) (l0_2 : List (S84)) (l0_3 : List (S87)) : Option (Int × (List (S55))) := (impl_EngineFault.f k a0_0 a0_1 l0_2 l0_3).bind fun t408 => (if t408 = 0 then ((impl_Engine_pairs.f k a0_0 a0_1 l0_2 l0_3).bind fun t409 => (some (0, t409))) else (some (t408, ([] : List (S55)))))

/-! ### laws_eqPairsResult: function 15 -/
def laws_eqPairsResult.f (k : Nat) (a0_0 : Int) (l0_1 : List (S55)) (a1_0 : Int) (l1_1 : List (S55)) : Option (Bool) := if a0_0 = a1_0 then ((laws_eqPairS.f k l0_1 l1_1).bind fun t414 => (if t414 = true then (some true) else (some false))) else (some false)

/-! ### laws_markUndoS: function 77 -/
def laws_markUndoS.l0 : Nat → List (S100) → Int → Int → Option (Int × (List (S100)))
  | 0, _, _, _ => none
  | k + 1, x0, x1, x5 => if x5 < (x0.length : Int) then (if 0 ≤ x5 then ((some (x0.set (x5 : Int).toNat (⟨x1, (rd_T100 x0 x5).f1, (rd_T100 x0 x5).f2, (rd_T100 x0 x5).f3⟩ : S100) : List (S100))).bind fun y415 => ((some (y415.set (x5 : Int).toNat (⟨(rd_T100 y415 x5).f0, ((Int.tmod (wrap64 (x1 + 1)) 3) == 0), (rd_T100 y415 x5).f2, (rd_T100 y415 x5).f3⟩ : S100) : List (S100))).bind fun y416 => ((some (y416.set (x5 : Int).toNat (⟨(rd_T100 y416 x5).f0, (rd_T100 y416 x5).f1, ((Int.tmod (wrap64 ((wrap64 (x1 + 1)) + 1)) 3) == 0), (rd_T100 y416 x5).f3⟩ : S100) : List (S100))).bind fun y417 => (laws_markUndoS.l0 k (y417.set (x5 : Int).toNat (⟨(rd_T100 y417 x5).f0, (rd_T100 y417 x5).f1, (rd_T100 y417 x5).f2, wrap64 ((wrap64 ((wrap64 (x1 + 1)) + 1)) + 1)⟩ : S100)) (wrap64 ((wrap64 ((wrap64 ((wrap64 (x1 + 1)) + 1)) + 1)) + 1)) (wrap64 (x5 + 1)))))) else (none)) else (some (x1, x0))
def laws_markUndoS.f (k : Nat) (l0 : List (S100)) (a1 : Int) : Option (Int × (List (S100))) := laws_markUndoS.l0 k l0 a1 0

/-! ### laws_markVersionS: function 78 -/
def laws_markVersionS.l0 : Nat → List (S89) → Int → Int → Option (Int × (List (S89)))
  | 0, _, _, _ => none
  | k + 1, x0, x1, x5 => if x5 < (x0.length : Int) then (if 0 ≤ x5 then ((some (x0.set (x5 : Int).toNat (⟨x1, (rd_T89 x0 x5).f1, (rd_T89 x0 x5).f2, (rd_T89 x0 x5).f3⟩ : S89) : List (S89))).bind fun y419 => ((some (y419.set (x5 : Int).toNat (⟨(rd_T89 y419 x5).f0, wrap64 (x1 + 1), (rd_T89 y419 x5).f2, (rd_T89 y419 x5).f3⟩ : S89) : List (S89))).bind fun y420 => ((some (y420.set (x5 : Int).toNat (⟨(rd_T89 y420 x5).f0, (rd_T89 y420 x5).f1, ((Int.tmod (wrap64 ((wrap64 (x1 + 1)) + 1)) 3) == 0), (rd_T89 y420 x5).f3⟩ : S89) : List (S89))).bind fun y421 => (laws_markVersionS.l0 k (y421.set (x5 : Int).toNat (⟨(rd_T89 y421 x5).f0, (rd_T89 y421 x5).f1, (rd_T89 y421 x5).f2, wrap64 ((wrap64 ((wrap64 (x1 + 1)) + 1)) + 1)⟩ : S89)) (wrap64 ((wrap64 ((wrap64 ((wrap64 (x1 + 1)) + 1)) + 1)) + 1)) (wrap64 (x5 + 1)))))) else (none)) else (some (x1, x0))
def laws_markVersionS.f (k : Nat) (l0 : List (S89)) (a1 : Int) : Option (Int × (List (S89))) := laws_markVersionS.l0 k l0 a1 0

/-! ### laws_markEngine: function 16 -/
-- NEEDS Derived.Test.YtocdahbinombkaaGreatLb
def laws_markTxnS.l0 : Nat → List S84 → Int → Int → Option (Int × List S84)
  | 0, _, _, _ => none
  | k + 1, x0, x1, x5 => if x5 < (x0.length : Int) then (if 0 ≤ x5 then ((laws_markUndoS.f k (rd_T84 x0 x5).f4 (wrap64 ((wrap64 ((wrap64 ((wrap64 (x1 + 1)) + 1)) + 1)) + 1))).bind fun t4 => laws_markTxnS.l0 k (x0.set (x5 : Int).toNat (⟨x1, (wrap64 (x1 + 1)), (wrap64 ((wrap64 (x1 + 1)) + 1)), (wrap64 ((wrap64 ((wrap64 (x1 + 1)) + 1)) + 1)), t4.2⟩ : S84)) t4.1 (wrap64 (x5 + 1))) else none) else some (x1, x0)
def laws_markTxnS.f (k : Nat) (l0 : List S84) (a1 : Int) : Option (Int × List S84) := laws_markTxnS.l0 k l0 a1 0
def laws_markRowS.l0 : Nat → List S87 → Int → Int → Option (Int × List S87)
  | 0, _, _, _ => none
  | k + 1, x0, x1, x5 => if x5 < (x0.length : Int) then (if 0 ≤ x5 then ((laws_markVersionS.f k (rd_T87 x0 x5).f1 (wrap64 (x1 + 1))).bind fun t1 => laws_markRowS.l0 k (x0.set (x5 : Int).toNat (⟨x1, t1.2⟩ : S87)) t1.1 (wrap64 (x5 + 1))) else none) else some (x1, x0)
def laws_markRowS.f (k : Nat) (l0 : List S87) (a1 : Int) : Option (Int × List S87) := laws_markRowS.l0 k l0 a1 0
def laws_markEngine.f (k : Nat) (a0_0 a0_1 : Int) (l0_2 : List S84) (l0_3 : List S87) (a1 : Int) : Option (Int × List S84 × List S87) := (laws_markTxnS.f k l0_2 a1).bind fun m => (laws_markRowS.f k l0_3 m.1).bind fun n => some (n.1, m.2, n.2)


/-! ### laws_markPairS: function 39 -/
def laws_markPairS.l0 : Nat → List (S55) → Int → Int → Option (Int × (List (S55)))
  | 0, _, _, _ => none
  | k + 1, x0, x1, x5 => if x5 < (x0.length : Int) then (if 0 ≤ x5 then ((some (x0.set (x5 : Int).toNat (⟨x1, (rd_T55 x0 x5).f1⟩ : S55) : List (S55))).bind fun y423 => (laws_markPairS.l0 k (y423.set (x5 : Int).toNat (⟨(rd_T55 y423 x5).f0, wrap64 (x1 + 1)⟩ : S55)) (wrap64 ((wrap64 (x1 + 1)) + 1)) (wrap64 (x5 + 1)))) else (none)) else (some (x1, x0))
def laws_markPairS.f (k : Nat) (l0 : List (S55)) (a1 : Int) : Option (Int × (List (S55))) := laws_markPairS.l0 k l0 a1 0

/-! ### laws_markPairsResult: function 17 -/
def laws_markPairsResult.f (k : Nat) (a0_0 : Int) (l0_1 : List (S55)) (a1 : Int) : Option (Int × (List (S55))) := (laws_markPairS.f k l0_1 a1).bind fun bt426 => (some (bt426.1, bt426.2))

/-! ### laws_heldPairS: function 40 -/
def laws_heldPairS.l0 : Nat → List (S55) → Int → Int → Option (Int)
  | 0, _, _, _ => none
  | k + 1, x0, x1, x5 => if x5 < (x0.length : Int) then (if 0 ≤ x5 then (if ((rd_T55 x0 x5).f0) = x1 then (if ((rd_T55 x0 x5).f1) = (wrap64 (x1 + 1)) then (laws_heldPairS.l0 k x0 (wrap64 ((wrap64 (x1 + 1)) + 1)) (wrap64 (x5 + 1))) else (some (-1))) else (some (-1))) else (none)) else (some x1)
def laws_heldPairS.f (k : Nat) (l0 : List (S55)) (a1 : Int) : Option (Int) := laws_heldPairS.l0 k l0 a1 0

/-! ### laws_heldPairsResult: function 18 -/
def laws_heldPairsResult.f (k : Nat) (a0_0 : Int) (l0_1 : List (S55)) (a1 : Int) : Option (Int) := (laws_heldPairS.f k l0_1 a1).bind fun t431 => (if t431 < 0 then (some (-1)) else (some t431))

/-! ### laws_FnExactBuildIndex: function 4 -/
/-- The law, told once for all that is computed twice. -/
def laws_FnExactBuildIndex.f (k : Nat) (a0_0 : Int) (a0_1 : Int) (l0_2 : List S73) (l0_3 : List S77) : Option Bool :=
  (laws_szEngine.f k a0_0 a0_1 l0_2 l0_3 1048576).bind fun t => if t < 0 then some true else
  (laws_toEngine.f k a0_0 a0_1 l0_2 l0_3).bind fun x =>
  (spec_BuildIndex.f k x.1 x.2.1 x.2.2.1 x.2.2.2).bind fun s => (impl_BuildIndex.f k x.1 x.2.1 x.2.2.1 x.2.2.2).bind fun g =>
  (laws_eqPairsResult.f k g.1 g.2 s.1 s.2).bind fun q1 => if q1 = true then
    (laws_eqEngine.f k x.1 x.2.1 x.2.2.1 x.2.2.2 x.1 x.2.1 x.2.2.1 x.2.2.2).bind fun q2 => if q2 = true then
      (laws_markEngine.f k x.1 x.2.1 x.2.2.1 x.2.2.2 1).bind fun m => if m.1 < 0 then some false else
      (laws_markPairsResult.f k g.1 g.2 1).bind fun n => (laws_heldPairsResult.f k g.1 n.2 1).bind fun q3 => if q3 < 0 then some false else if q3 = n.1 then some true else some false
    else some false
  else some false

end Go.Proofs.YtocdahbinombkaaGreat.P
