-- Printed by this session's own program over the kit's print (wip/tools/mp.py). Not trusted: Lean checks it.
import Derived.Test.YtonbnmaelepcbaaP0
import Derived.Test.YtonbnmaelepcbaaPDacdefgh0
import Derived.Test.YtonbnmaelepcbaaPDm0
import Derived.Test.YtonbnmaelepcbaaPDm1
import Derived.Test.YtonbnmaelepcbaaLb
namespace Go.Proofs.Ytonbnmaelepcbaa.P
open Go.RowKit Go.Proofs.YtonbnmaelepcbaaW.PrintWords Go.Proofs.YtonbnmaelepcbaaW.PrintLast Go.Proofs.YtonbnmaelepcbaaW.PrintMore
attribute [local go_sem] max2_int min2_int max_two min_two max_three min_three max_four min_four   -- for this text's walks alone
set_option linter.unusedVariables false
set_option linter.unusedSimpArgs false

/-! ### spec_l1Min: function 126 -/
def spec_l1Min.f (a0 : Int) (a1 : Int) : Option (Int) := if a0 < a1 then (some a0) else (some a1)

/-! ### spec_l7Floor: function 77 -/
-- NEEDS Derived.Test.YtonbnmaelepcbaaLb
def floorF (ck : Int) (l : List S83) : Int := l.foldl (fun m t => if (t.f2 == 1) = true then (if m < t.f1 then m else t.f1) else m) ck
def spec_l7Floor.f (s0_0 s0_1 : Int) (s0_2 : List S83) (s0_3 : List S87) : Option Int := some (floorF s0_1 s0_2)

/-! ### spec_FloorOf: function 25 -/
def spec_FloorOf.f (k : Nat) (a0_0 : Int) (a0_1 : Int) (l0_2 : List (S83)) (l0_3 : List (S87)) : Option (Int × Int) := (spec_l6Fault.f k a0_0 a0_1 l0_2 l0_3).bind fun t340 => (if t340 = 0 then ((spec_l7Floor.f a0_0 a0_1 l0_2 l0_3).bind fun t341 => (some (0, t341))) else (some (t340, 0)))

/-! ### impl_Engine_floor: function 78 -/
def impl_Engine_floor.l0 : Nat → Int → List (S83) → Int → Int → Option (Int)
  | 0, _, _, _, _ => none
  | k + 1, x3, x9, x10, x11 => if x11 < x10 then (if 0 ≤ x11 then (if x11 < (x9.length : Int) then (if ((rd_T83 x9 x11).f2) = 1 then (impl_Engine_floor.l0 k (mn x3 ((rd_T83 x9 x11).f1)) x9 x10 (wrap64 (x11 + 1))) else (impl_Engine_floor.l0 k x3 x9 x10 (wrap64 (x11 + 1)))) else (none)) else (none)) else (some x3)
def impl_Engine_floor.f (k : Nat) (a0_0 : Int) (a0_1 : Int) (l0_2 : List (S83)) (l0_3 : List (S87)) : Option (Int) := impl_Engine_floor.l0 k a0_1 l0_2 (l0_2.length : Int) 0

/-! ### impl_FloorOf: function 26 -/
def impl_FloorOf.f (k : Nat) (a0_0 : Int) (a0_1 : Int) (l0_2 : List (S83)) (l0_3 : List (S87)) : Option (Int × Int) := (impl_EngineFault.f k a0_0 a0_1 l0_2 l0_3).bind fun t347 => (if t347 = 0 then ((impl_Engine_floor.f k a0_0 a0_1 l0_2 l0_3).bind fun t348 => (some (0, t348))) else (some (t347, 0)))

/-! ### laws_FnExactFloorOf: function 5 -/
def laws_FnExactFloorOf.f (k : Nat) (a0_0 : Int) (a0_1 : Int) (l0_2 : List (S139)) (l0_3 : List (S143)) : Option (Bool) := (laws_szEngine.f k a0_0 a0_1 l0_2 l0_3 1048576).bind fun t352 => (if t352 < 0 then (some true) else ((laws_toEngine.f k a0_0 a0_1 l0_2 l0_3).bind fun bt353 => ((spec_FloorOf.f k bt353.1 bt353.2.1 bt353.2.2.1 bt353.2.2.2).bind fun bt361 => ((laws_toEngine.f k a0_0 a0_1 l0_2 l0_3).bind fun bt364 => ((impl_FloorOf.f k bt364.1 bt364.2.1 bt364.2.2.1 bt364.2.2.2).bind fun bt373 => ((laws_eqIntResult.f bt373.1 bt373.2 bt361.1 bt361.2).bind fun t376 => (if t376 = true then ((laws_toEngine.f k a0_0 a0_1 l0_2 l0_3).bind fun bt377 => ((laws_eqEngine.f k bt364.1 bt364.2.1 bt364.2.2.1 bt364.2.2.2 bt377.1 bt377.2.1 bt377.2.2.1 bt377.2.2.2).bind fun t385 => (if t385 = true then (some true) else (some false)))) else (some false))))))))

/-! ### spec_ReadKey: function 28 -/
-- NEEDS Derived.Test.YtonbnmaelepcbaaLb
def spec_ReadKey.f (k : Nat) (a0_0 a0_1 : Int) (l2 : List S83) (l3 : List S87) (id key : Int) : Option (Int × Int) := (spec_l6Fault.f k a0_0 a0_1 l2 l3).bind fun flt => if (askedF flt l2 id).2 = 0 then (if inB key 0 31 = true then (spec_l6Read.f k l3 (l2.getD (askedF flt l2 id).1.toNat z83).f1 (l2.getD (askedF flt l2 id).1.toNat z83).f0 key).bind fun v => if v.2 = true then some (0, v.1) else some (4, 0) else some (3, 0)) else some ((askedF flt l2 id).2, 0)


/-! ### impl_ReadKey: function 29 -/
-- NEEDS Derived.Test.YtonbnmaelepcbaaLb
def impl_ReadKey.f (k : Nat) (a0_0 a0_1 : Int) (l2 : List S83) (l3 : List S87) (id key : Int) : Option (Int × Int) := (impl_EngineFault.f k a0_0 a0_1 l2 l3).bind fun flt => if flt = 0 then (if etxF l2 id = 0 then (if inB key 0 31 = true then impl_seenValue.f (chainF l3 key) (l2.getD (Lb.idx (fun u : S83 => u.f0 == id) l2).toNat z83).f1 (l2.getD (Lb.idx (fun u : S83 => u.f0 == id) l2).toNat z83).f0 else some (3, 0)) else some (etxF l2 id, 0)) else some (flt, 0)


/-! ### laws_FnExactReadKey: function 6 -/
def laws_FnExactReadKey.f (k : Nat) (a0_0 : Int) (a0_1 : Int) (l0_2 : List (S139)) (l0_3 : List (S143)) (a1 : Int) (a2 : Int) : Option (Bool) := (laws_szEngine.f k a0_0 a0_1 l0_2 l0_3 1048576).bind fun t397 => (if t397 < 0 then (some true) else ((laws_toEngine.f k a0_0 a0_1 l0_2 l0_3).bind fun bt398 => ((spec_ReadKey.f k bt398.1 bt398.2.1 bt398.2.2.1 bt398.2.2.2 a1 a2).bind fun bt406 => ((laws_toEngine.f k a0_0 a0_1 l0_2 l0_3).bind fun bt409 => ((impl_ReadKey.f k bt409.1 bt409.2.1 bt409.2.2.1 bt409.2.2.2 a1 a2).bind fun bt418 => ((laws_eqIntResult.f bt418.1 bt418.2 bt406.1 bt406.2).bind fun t421 => (if t421 = true then ((laws_toEngine.f k a0_0 a0_1 l0_2 l0_3).bind fun bt422 => ((laws_eqEngine.f k bt409.1 bt409.2.1 bt409.2.2.1 bt409.2.2.2 bt422.1 bt422.2.1 bt422.2.2.1 bt422.2.2.2).bind fun t430 => (if t430 = true then (some true) else (some false)))) else (some false))))))))

/-! ### spec_l5Copy: function 86 -/
def spec_l5Copy.f (l0 : List (S90)) : Option ((List (S90))) := (some (([] : List (S90)) : List (S90))).bind fun y431 => (if y431.length + l0.length < 4398046511104 then (some (y431 ++ l0)) else (none))

/-! ### spec_HistoryOf: function 30 -/
-- NEEDS Derived.Test.YtonbnmaelepcbaaLb
def spec_HistoryOf.f (k : Nat) (a0_0 a0_1 : Int) (l2 : List S83) (l3 : List S87) (key : Int) : Option (Int × List S90) := (spec_l6Fault.f k a0_0 a0_1 l2 l3).bind fun flt => if flt = 0 then (if inB key 0 31 = true then (if Lb.idx (fun u : S87 => u.f0 == key) l3 < 0 then some (0, []) else (spec_l5Copy.f (l3.getD (Lb.idx (fun u : S87 => u.f0 == key) l3).toNat z87).f1).bind fun c => some (0, c)) else some (3, [])) else some (flt, [])


/-! ### slices_Clone_impl_Version: function 87 -/
def slices_Clone_impl_Version.f (l0 : List (S90)) : Option ((List (S90))) := (some (([] : List (S90)) : List (S90))).bind fun y437 => (if y437.length + l0.length < 4398046511104 then (some (y437 ++ l0)) else (none))

/-! ### impl_HistoryOf: function 31 -/
-- NEEDS Derived.Test.YtonbnmaelepcbaaLb
def impl_HistoryOf.f (k : Nat) (a0_0 a0_1 : Int) (l2 : List S83) (l3 : List S87) (key : Int) : Option (Int × List S90) := (impl_EngineFault.f k a0_0 a0_1 l2 l3).bind fun flt => if flt = 0 then (if inB key 0 31 = true then (slices_Clone_impl_Version.f (chainF l3 key)).bind fun c => some (0, c) else some (3, [])) else some (flt, [])


/-! ### laws_eqChainResult: function 32 -/
def laws_eqChainResult.f (k : Nat) (a0_0 : Int) (l0_1 : List (S90)) (a1_0 : Int) (l1_1 : List (S90)) : Option (Bool) := if a0_0 = a1_0 then ((laws_eqVersionS.f k l0_1 l1_1).bind fun t445 => (if t445 = true then (some true) else (some false))) else (some false)

/-! ### laws_markChainResult: function 34 -/
def laws_markChainResult.f (k : Nat) (a0_0 : Int) (l0_1 : List (S90)) (a1 : Int) : Option (Int × (List (S90))) := (laws_markVersionS.f k l0_1 a1).bind fun bt447 => (some (bt447.1, bt447.2))

/-! ### laws_heldChainResult: function 35 -/
def laws_heldChainResult.f (k : Nat) (a0_0 : Int) (l0_1 : List (S90)) (a1 : Int) : Option (Int) := (laws_heldVersionS.f k l0_1 a1).bind fun t450 => (if t450 < 0 then (some (-1)) else (some t450))

/-! ### laws_FnExactHistoryOf: function 7 -/
-- NEEDS Derived.Test.YtonbnmaelepcbaaLb
/-- The law, told once for all that is computed twice. -/
def laws_FnExactHistoryOf.f (k : Nat) (a0_0 : Int) (a0_1 : Int) (l0_2 : List S139) (l0_3 : List S143) (a1 : Int) : Option Bool :=
  (laws_szEngine.f k a0_0 a0_1 l0_2 l0_3 1048576).bind fun t => if t < 0 then some true else
  (laws_toEngine.f k a0_0 a0_1 l0_2 l0_3).bind fun x =>
  (spec_HistoryOf.f k x.1 x.2.1 x.2.2.1 x.2.2.2 a1).bind fun s => (impl_HistoryOf.f k x.1 x.2.1 x.2.2.1 x.2.2.2 a1).bind fun g =>
  (laws_eqChainResult.f k g.1 g.2 s.1 s.2).bind fun q1 => if q1 = true then
    (laws_eqEngine.f k x.1 x.2.1 x.2.2.1 x.2.2.2 x.1 x.2.1 x.2.2.1 x.2.2.2).bind fun q2 => if q2 = true then
      (laws_markEngine.f k x.1 x.2.1 x.2.2.1 x.2.2.2 1).bind fun m => if m.1 < 0 then some false else
      (laws_markChainResult.f k g.1 g.2 1).bind fun n => (laws_heldChainResult.f k g.1 n.2 1).bind fun q3 => if q3 < 0 then some false else if q3 = n.1 then some true else some false
    else some false
  else some false


/-! ### impl_OpenTxns: function 37 -/
def impl_OpenTxns.f (k : Nat) (a0_0 : Int) (a0_1 : Int) (l0_2 : List (S83)) (l0_3 : List (S87)) : Option (Int × List Int) := (impl_EngineFault.f k a0_0 a0_1 l0_2 l0_3).bind fun t471 => (if t471 = 0 then ((impl_Engine_open.f k a0_0 a0_1 l0_2 l0_3).bind fun t472 => (some (0, t472))) else (some (t471, ([] : List Int))))

/-! ### laws_eqInt64S: function 94 -/
def laws_eqInt64S.l0 : Nat → List Int → List Int → Int → Option (Bool)
  | 0, _, _, _ => none
  | k + 1, x0, x1, x5 => if x5 < (x0.length : Int) then (if 0 ≤ x5 then (if x5 < (x1.length : Int) then (if (rd x0 x5) = (rd x1 x5) then (laws_eqInt64S.l0 k x0 x1 (wrap64 (x5 + 1))) else (some false)) else (none)) else (none)) else (some true)
def laws_eqInt64S.f (k : Nat) (l0 : List Int) (l1 : List Int) : Option (Bool) := if (l0.length : Int) = (l1.length : Int) then (laws_eqInt64S.l0 k l0 l1 0) else (some false)

/-! ### laws_eqIntsResult: function 38 -/
def laws_eqIntsResult.f (k : Nat) (a0_0 : Int) (l0_1 : List Int) (a1_0 : Int) (l1_1 : List Int) : Option (Bool) := if a0_0 = a1_0 then ((laws_eqInt64S.f k l0_1 l1_1).bind fun t479 => (if t479 = true then (some true) else (some false))) else (some false)

/-! ### laws_markInt64S: function 95 -/
def laws_markInt64S.l0 : Nat → List Int → Int → Int → Option (Int × List Int)
  | 0, _, _, _ => none
  | k + 1, x0, x1, x5 => if x5 < (x0.length : Int) then (if 0 ≤ x5 then (laws_markInt64S.l0 k (x0.set (x5 : Int).toNat x1) (wrap64 (x1 + 1)) (wrap64 (x5 + 1))) else (none)) else (some (x1, x0))
def laws_markInt64S.f (k : Nat) (l0 : List Int) (a1 : Int) : Option (Int × List Int) := laws_markInt64S.l0 k l0 a1 0

/-! ### laws_markIntsResult: function 39 -/
def laws_markIntsResult.f (k : Nat) (a0_0 : Int) (l0_1 : List Int) (a1 : Int) : Option (Int × List Int) := (laws_markInt64S.f k l0_1 a1).bind fun bt482 => (some (bt482.1, bt482.2))

/-! ### laws_heldInt64S: function 96 -/
def laws_heldInt64S.l0 : Nat → List Int → Int → Int → Option (Int)
  | 0, _, _, _ => none
  | k + 1, x0, x1, x5 => if x5 < (x0.length : Int) then (if 0 ≤ x5 then (if (rd x0 x5) = x1 then (laws_heldInt64S.l0 k x0 (wrap64 (x1 + 1)) (wrap64 (x5 + 1))) else (some (-1))) else (none)) else (some x1)
def laws_heldInt64S.f (k : Nat) (l0 : List Int) (a1 : Int) : Option (Int) := laws_heldInt64S.l0 k l0 a1 0

/-! ### laws_heldIntsResult: function 40 -/
def laws_heldIntsResult.f (k : Nat) (a0_0 : Int) (l0_1 : List Int) (a1 : Int) : Option (Int) := (laws_heldInt64S.f k l0_1 a1).bind fun t486 => (if t486 < 0 then (some (-1)) else (some t486))

/-! ### laws_FnExactOpenTxns: function 8 -/
-- NEEDS Derived.Test.YtonbnmaelepcbaaLb
/-- The law, told once for all that is computed twice. -/
def laws_FnExactOpenTxns.f (k : Nat) (a0_0 : Int) (a0_1 : Int) (l0_2 : List S139) (l0_3 : List S143) : Option Bool :=
  (laws_szEngine.f k a0_0 a0_1 l0_2 l0_3 1048576).bind fun t => if t < 0 then some true else
  (laws_toEngine.f k a0_0 a0_1 l0_2 l0_3).bind fun x =>
  (spec_OpenTxns.f k x.1 x.2.1 x.2.2.1 x.2.2.2).bind fun s => (impl_OpenTxns.f k x.1 x.2.1 x.2.2.1 x.2.2.2).bind fun g =>
  (laws_eqIntsResult.f k g.1 g.2 s.1 s.2).bind fun q1 => if q1 = true then
    (laws_eqEngine.f k x.1 x.2.1 x.2.2.1 x.2.2.2 x.1 x.2.1 x.2.2.1 x.2.2.2).bind fun q2 => if q2 = true then
      (laws_markEngine.f k x.1 x.2.1 x.2.2.1 x.2.2.2 1).bind fun m => if m.1 < 0 then some false else
      (laws_markIntsResult.f k g.1 g.2 1).bind fun n => (laws_heldIntsResult.f k g.1 n.2 1).bind fun q3 => if q3 < 0 then some false else if q3 = n.1 then some true else some false
    else some false
  else some false


end Go.Proofs.Ytonbnmaelepcbaa.P
