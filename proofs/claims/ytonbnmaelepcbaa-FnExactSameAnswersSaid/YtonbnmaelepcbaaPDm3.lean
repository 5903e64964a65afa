-- Printed by this session's own program over the kit's print (wip/tools/mp.py). Not trusted: Lean checks it.
import Derived.Test.YtonbnmaelepcbaaP0
import Derived.Test.YtonbnmaelepcbaaPDacdefgh0
import Derived.Test.YtonbnmaelepcbaaPDm0
import Derived.Test.YtonbnmaelepcbaaPDm1
import Derived.Test.YtonbnmaelepcbaaLb
namespace Go.Proofs.Ytonbnmaelepcbaa.P
open Go.RowKit Go.Proofs.YtonbnmaelepcbaaW.PrintWords Go.Proofs.YtonbnmaelepcbaaW.PrintLast Go.Proofs.YtonbnmaelepcbaaW.PrintMore
attribute [local go_sem] max2_int min2_int max_two min_two max_three min_three max_four min_four   -- for this text's walks alone
set_option linter.unusedVariables false
set_option linter.unusedSimpArgs false

/-! ### spec_ScanKeys: function 43 -/
-- NEEDS Derived.Test.YtonbnmaelepcbaaLb
def spec_ScanKeys.f (k : Nat) (a0_0 a0_1 : Int) (l2 : List S83) (l3 : List S87) (id lo hi : Int) : Option (Int × List S105) := (spec_l6Fault.f k a0_0 a0_1 l2 l3).bind fun flt => if (askedF flt l2 id).2 = 0 then (spec_l6Scan.f k l3 (l2.getD (askedF flt l2 id).1.toNat z83).f1 (l2.getD (askedF flt l2 id).1.toNat z83).f0 lo hi).bind fun c => some (0, c) else some ((askedF flt l2 id).2, [])


/-! ### impl_ScanKeys: function 44 -/
-- NEEDS Derived.Test.YtonbnmaelepcbaaLb
def impl_ScanKeys.f (k : Nat) (a0_0 a0_1 : Int) (l2 : List S83) (l3 : List S87) (id lo hi : Int) : Option (Int × List S105) := (impl_EngineFault.f k a0_0 a0_1 l2 l3).bind fun flt => if flt = 0 then (if etxF l2 id = 0 then (impl_Engine_scan.f k a0_0 a0_1 l2 l3 (l2.getD (Lb.idx (fun u : S83 => u.f0 == id) l2).toNat z83).f0 (l2.getD (Lb.idx (fun u : S83 => u.f0 == id) l2).toNat z83).f1 (l2.getD (Lb.idx (fun u : S83 => u.f0 == id) l2).toNat z83).f2 (l2.getD (Lb.idx (fun u : S83 => u.f0 == id) l2).toNat z83).f3 (l2.getD (Lb.idx (fun u : S83 => u.f0 == id) l2).toNat z83).f4 lo hi).bind fun c => some (0, c) else some (etxF l2 id, [])) else some (flt, [])


/-! ### laws_eqCellsResult: function 45 -/
def laws_eqCellsResult.f (k : Nat) (a0_0 : Int) (l0_1 : List (S105)) (a1_0 : Int) (l1_1 : List (S105)) : Option (Bool) := if a0_0 = a1_0 then ((laws_eqCellS.f k l0_1 l1_1).bind fun t580 => (if t580 = true then (some true) else (some false))) else (some false)

/-! ### laws_markCellsResult: function 46 -/
def laws_markCellsResult.f (k : Nat) (a0_0 : Int) (l0_1 : List (S105)) (a1 : Int) : Option (Int × (List (S105))) := (laws_markCellS.f k l0_1 a1).bind fun bt582 => (some (bt582.1, bt582.2))

/-! ### laws_heldCellS: function 106 -/
def laws_heldCellS.l0 : Nat → List (S105) → Int → Int → Option (Int)
  | 0, _, _, _ => none
  | k + 1, x0, x1, x5 => if x5 < (x0.length : Int) then (if 0 ≤ x5 then (if ((rd_T105 x0 x5).f0) = x1 then (if ((rd_T105 x0 x5).f1) = (wrap64 (x1 + 1)) then (laws_heldCellS.l0 k x0 (wrap64 ((wrap64 (x1 + 1)) + 1)) (wrap64 (x5 + 1))) else (some (-1))) else (some (-1))) else (none)) else (some x1)
def laws_heldCellS.f (k : Nat) (l0 : List (S105)) (a1 : Int) : Option (Int) := laws_heldCellS.l0 k l0 a1 0

/-! ### laws_heldCellsResult: function 47 -/
def laws_heldCellsResult.f (k : Nat) (a0_0 : Int) (l0_1 : List (S105)) (a1 : Int) : Option (Int) := (laws_heldCellS.f k l0_1 a1).bind fun t587 => (if t587 < 0 then (some (-1)) else (some t587))

/-! ### laws_FnExactScanKeys: function 10 -/
-- NEEDS Derived.Test.YtonbnmaelepcbaaLb
/-- The law, told once for all that is computed twice. -/
def laws_FnExactScanKeys.f (k : Nat) (a0_0 : Int) (a0_1 : Int) (l0_2 : List S139) (l0_3 : List S143) (a1 : Int) (a2 : Int) (a3 : Int) : Option Bool :=
  (laws_szEngine.f k a0_0 a0_1 l0_2 l0_3 1048576).bind fun t => if t < 0 then some true else
  (laws_toEngine.f k a0_0 a0_1 l0_2 l0_3).bind fun x =>
  (spec_ScanKeys.f k x.1 x.2.1 x.2.2.1 x.2.2.2 a1 a2 a3).bind fun s => (impl_ScanKeys.f k x.1 x.2.1 x.2.2.1 x.2.2.2 a1 a2 a3).bind fun g =>
  (laws_eqCellsResult.f k g.1 g.2 s.1 s.2).bind fun q1 => if q1 = true then
    (laws_eqEngine.f k x.1 x.2.1 x.2.2.1 x.2.2.2 x.1 x.2.1 x.2.2.1 x.2.2.2).bind fun q2 => if q2 = true then
      (laws_markEngine.f k x.1 x.2.1 x.2.2.1 x.2.2.2 1).bind fun m => if m.1 < 0 then some false else
      (laws_markCellsResult.f k g.1 g.2 1).bind fun n => (laws_heldCellsResult.f k g.1 n.2 1).bind fun q3 => if q3 < 0 then some false else if q3 = n.1 then some true else some false
    else some false
  else some false


end Go.Proofs.Ytonbnmaelepcbaa.P
