-- Printed by this session's own program over the kit's print (wip/tools/mp.py). Not trusted: Lean checks it.
import Derived.Test.YtonbnmaelepcbaaP0
import Derived.Test.YtonbnmaelepcbaaPDacdefgh0
import Derived.Test.YtonbnmaelepcbaaPDm0
import Derived.Test.YtonbnmaelepcbaaPDm1
import Derived.Test.YtonbnmaelepcbaaWRepsOne
import Derived.Test.YtonbnmaelepcbaaLb
namespace Go.Proofs.Ytonbnmaelepcbaa.P
open Go.RowKit Go.Proofs.YtonbnmaelepcbaaW.PrintWords Go.Proofs.YtonbnmaelepcbaaW.PrintLast Go.Proofs.YtonbnmaelepcbaaW.PrintMore
attribute [local go_sem] max2_int min2_int max_two min_two max_three min_three max_four min_four   -- for this text's walks alone
set_option linter.unusedVariables false
set_option linter.unusedSimpArgs false

/-! ### spec_l7Same: function 97 -/
def spec_l7Same.l0 : Nat → List Int → List Int → Int → Option (Bool)
  | 0, _, _, _ => none
  | k + 1, x0, x1, x5 => if x5 < (x0.length : Int) then (if 0 ≤ x5 then (if x5 < (x1.length : Int) then (if (rd x0 x5) = (rd x1 x5) then (spec_l7Same.l0 k x0 x1 (wrap64 (x5 + 1))) else (some false)) else (none)) else (none)) else (some true)
def spec_l7Same.f (k : Nat) (l0 : List Int) (l1 : List Int) : Option (Bool) := if (l0.length : Int) = (l1.length : Int) then (spec_l7Same.l0 k l0 l1 0) else (some false)

/-! ### spec_l7Cells: function 99 -/
def spec_l7Cells.l0 : Nat → List (S105) → List (S105) → Int → Option (Bool)
  | 0, _, _, _ => none
  | k + 1, x0, x1, x5 => if x5 < (x0.length : Int) then (if 0 ≤ x5 then (if x5 < (x1.length : Int) then (if (!(((rd_T105 x0 x5).f0) == ((rd_T105 x1 x5).f0)) || (!(((rd_T105 x0 x5).f1) == ((rd_T105 x1 x5).f1)))) = true then (some false) else (spec_l7Cells.l0 k x0 x1 (wrap64 (x5 + 1)))) else (none)) else (none)) else (some true)
def spec_l7Cells.f (k : Nat) (l0 : List (S105)) (l1 : List (S105)) : Option (Bool) := if (l0.length : Int) = (l1.length : Int) then (spec_l7Cells.l0 k l0 l1 0) else (some false)

/-! ### spec_l5May: function 132 -/
def spec_l5May.f (l0 : List (S90)) (a1_0 : Int) (a1_1 : Int) : Option (Bool) := if (l0.length : Int) = 0 then (some true) else (if 0 < (l0.length : Int) then (if ((rd_T90 l0 0).f1) = 0 then (some (((rd_T90 l0 0).f0) == a1_1)) else (some (decide (((rd_T90 l0 0).f1) ≤ a1_0)))) else (none))

/-! ### spec_l7May: function 101 -/
-- NEEDS Derived.Test.YtonbnmaelepcbaaLb
def mayK (l3 : List S87) (at_ id key : Int) : Option Bool := if Lb.idx (fun u : S87 => u.f0 == key) l3 < 0 then some true else spec_l5May.f (l3.getD (Lb.idx (fun u : S87 => u.f0 == key) l3).toNat z87).f1 at_ id
def spec_l7May.l0 : Nat → List S87 → Int → Int → Int → List Int → Option (List Int)
  | 0, _, _, _, _, _ => none
  | k + 1, l3, at_, id, key, acc => if key ≤ 31 then (mayK l3 at_ id key).bind fun b => if b = true then (if acc.length < 8796093022208 then spec_l7May.l0 k l3 at_ id (wrap64 (key + 1)) (acc ++ [key]) else none) else spec_l7May.l0 k l3 at_ id (wrap64 (key + 1)) acc else some acc
def spec_l7May.f (k : Nat) (l3 : List S87) (at_ id : Int) : Option (List Int) := spec_l7May.l0 k l3 at_ id 0 []


/-! ### spec_SameAnswers: function 41 -/
-- NEEDS Derived.Test.YtonbnmaelepcbaaLb
def sameScan (k : Nat) (l3 m3 : List S87) (ta ia tb ib : Int) : Option Bool := (spec_l6Scan.f k l3 ta ia 0 31).bind fun c => (spec_l6Scan.f k m3 tb ib 0 31).bind fun d => spec_l7Cells.f k c d
def sameMay (k : Nat) (l3 m3 : List S87) (ta ia tb ib : Int) : Option Bool := (spec_l7May.f k l3 ta ia).bind fun c => (spec_l7May.f k m3 tb ib).bind fun d => spec_l7Same.f k c d
def spec_SameAnswers.l0 : Nat → List S83 → List S87 → List S83 → List S87 → List Int → Int → Option Bool
  | 0, _, _, _, _, _, _ => none
  | k + 1, l2, l3, m2, m3, x, i => if i < (x.length : Int) then
      (if Lb.idx (fun u : S83 => u.f0 == rd x i) l2 < 0 ∨ Lb.idx (fun u : S83 => u.f0 == rd x i) m2 < 0 then none else
      (sameScan k l3 m3 (l2.getD (Lb.idx (fun u : S83 => u.f0 == rd x i) l2).toNat z83).f1 (l2.getD (Lb.idx (fun u : S83 => u.f0 == rd x i) l2).toNat z83).f0 (m2.getD (Lb.idx (fun u : S83 => u.f0 == rd x i) m2).toNat z83).f1 (m2.getD (Lb.idx (fun u : S83 => u.f0 == rd x i) m2).toNat z83).f0).bind fun q => if q = true then
      ((sameMay k l3 m3 (l2.getD (Lb.idx (fun u : S83 => u.f0 == rd x i) l2).toNat z83).f1 (l2.getD (Lb.idx (fun u : S83 => u.f0 == rd x i) l2).toNat z83).f0 (m2.getD (Lb.idx (fun u : S83 => u.f0 == rd x i) m2).toNat z83).f1 (m2.getD (Lb.idx (fun u : S83 => u.f0 == rd x i) m2).toNat z83).f0).bind fun z => if z = true then spec_SameAnswers.l0 k l2 l3 m2 m3 x (wrap64 (i + 1)) else some false) else some false) else some true
def spec_SameAnswers.f (k : Nat) (a0_0 a0_1 : Int) (l2 : List S83) (l3 : List S87) (b0_0 b0_1 : Int) (m2 : List S83) (m3 : List S87) : Option Bool := (spec_l6Fault.f k a0_0 a0_1 l2 l3).bind fun fa => if fa = 0 then ((spec_l6Fault.f k b0_0 b0_1 m2 m3).bind fun fb => if fb = 0 then (if a0_1 = b0_1 then (if a0_0 = b0_0 then (spec_OpenTxns.f k a0_0 a0_1 l2 l3).bind fun x => (spec_OpenTxns.f k b0_0 b0_1 m2 m3).bind fun y => (spec_l7Same.f k x.2 y.2).bind fun q => if q = true then spec_SameAnswers.l0 k l2 l3 m2 m3 x.2 0 else some false else some false) else some false) else some false) else some false


/-! ### slices_Equal_int64: function 102 -/
def slices_Equal_int64.l0 : Nat → List Int → List Int → Int → Int → Option (Bool)
  | 0, _, _, _, _ => none
  | k + 1, x0, x1, x12, x13 => if x13 < x12 then (if 0 ≤ x13 then (if x13 < (x0.length : Int) then (if x13 < (x1.length : Int) then (if (rd x0 x13) = (rd x1 x13) then (slices_Equal_int64.l0 k x0 x1 x12 (wrap64 (x13 + 1))) else (some false)) else (none)) else (none)) else (none)) else (some true)
def slices_Equal_int64.f (k : Nat) (l0 : List Int) (l1 : List Int) : Option (Bool) := if (l0.length : Int) = (l1.length : Int) then (slices_Equal_int64.l0 k l0 l1 (l0.length : Int) 0) else (some false)

/-! ### slices_Equal_impl_Cell: function 103 -/
def slices_Equal_impl_Cell.l0 : Nat → List (S105) → List (S105) → Int → Int → Option (Bool)
  | 0, _, _, _, _ => none
  | k + 1, x0, x1, x12, x13 => if x13 < x12 then (if 0 ≤ x13 then (if x13 < (x0.length : Int) then (if x13 < (x1.length : Int) then (if (!(((rd_T105 x0 x13).f0) == ((rd_T105 x1 x13).f0)) || (!(((rd_T105 x0 x13).f1) == ((rd_T105 x1 x13).f1)))) = true then (some false) else (slices_Equal_impl_Cell.l0 k x0 x1 x12 (wrap64 (x13 + 1)))) else (none)) else (none)) else (none)) else (some true)
def slices_Equal_impl_Cell.f (k : Nat) (l0 : List (S105)) (l1 : List (S105)) : Option (Bool) := if (l0.length : Int) = (l1.length : Int) then (slices_Equal_impl_Cell.l0 k l0 l1 (l0.length : Int) 0) else (some false)

/-! ### impl_mayWrite: function 105 -/
def impl_mayWrite.f (l0 : List (S90)) (a1_0 : Int) (a1_1 : Int) : Option (Int) := if (l0.length : Int) > 0 then (if 0 < (l0.length : Int) then (if ((rd_T90 l0 0).f1) = 0 then (if ((rd_T90 l0 0).f0) = a1_1 then (if ((rd_T90 l0 0).f1) > a1_0 then (some 9) else (some 0)) else (some 9)) else (if ((rd_T90 l0 0).f1) > a1_0 then (some 9) else (some 0))) else (none)) else (some 0)

/-! ### impl_SameAnswers: function 42 -/
-- NEEDS Derived.Test.YtonbnmaelepcbaaLb
def SE8 (g : Nat) (a0 a1 : Int) (v2 v3 : Value) (b0 b1 : Int) (u2 u3 : Value) (W : World) : Prop := W.cell? ⟨g, 0, none⟩ = some (.int .i64 a0) ∧ W.cell? ⟨g, 1, none⟩ = some (.int .i64 a1) ∧ W.cell? ⟨g, 2, none⟩ = some (v2) ∧ W.cell? ⟨g, 3, none⟩ = some (v3) ∧ W.cell? ⟨g + 1, 0, none⟩ = some (.int .i64 b0) ∧ W.cell? ⟨g + 1, 1, none⟩ = some (.int .i64 b1) ∧ W.cell? ⟨g + 1, 2, none⟩ = some (u2) ∧ W.cell? ⟨g + 1, 3, none⟩ = some (u3)
def TX5 (p : Addr) (Y : S83) (A4 : Option Addr) (c4 : Nat) (W : World) : Prop := W.cell? p = some (.int .i64 Y.f0) ∧ W.cell? ⟨p.block, p.off + 1, none⟩ = some (.int .i64 Y.f1) ∧ W.cell? ⟨p.block, p.off + 2, none⟩ = some (.int .i64 Y.f2) ∧ W.cell? ⟨p.block, p.off + 3, none⟩ = some (.int .i64 Y.f3) ∧ W.cell? ⟨p.block, p.off + 4, none⟩ = some (.slice A4 Y.f4.length c4)
def SE18 (g : Nat) (a0 a1 : Int) (v2 v3 : Value) (b0 b1 : Int) (u2 u3 : Value) (p : Addr) (Y : S83) (A4 : Option Addr) (c4 : Nat) (q : Addr) (Z : S83) (A5 : Option Addr) (c5 : Nat) (W : World) : Prop := W.cell? ⟨g, 0, none⟩ = some (.int .i64 a0) ∧ W.cell? ⟨g, 1, none⟩ = some (.int .i64 a1) ∧ W.cell? ⟨g, 2, none⟩ = some (v2) ∧ W.cell? ⟨g, 3, none⟩ = some (v3) ∧ W.cell? ⟨g + 1, 0, none⟩ = some (.int .i64 b0) ∧ W.cell? ⟨g + 1, 1, none⟩ = some (.int .i64 b1) ∧ W.cell? ⟨g + 1, 2, none⟩ = some (u2) ∧ W.cell? ⟨g + 1, 3, none⟩ = some (u3) ∧ W.cell? p = some (.int .i64 Y.f0) ∧ W.cell? ⟨p.block, p.off + 1, none⟩ = some (.int .i64 Y.f1) ∧ W.cell? ⟨p.block, p.off + 2, none⟩ = some (.int .i64 Y.f2) ∧ W.cell? ⟨p.block, p.off + 3, none⟩ = some (.int .i64 Y.f3) ∧ W.cell? ⟨p.block, p.off + 4, none⟩ = some (.slice A4 Y.f4.length c4) ∧ W.cell? q = some (.int .i64 Z.f0) ∧ W.cell? ⟨q.block, q.off + 1, none⟩ = some (.int .i64 Z.f1) ∧ W.cell? ⟨q.block, q.off + 2, none⟩ = some (.int .i64 Z.f2) ∧ W.cell? ⟨q.block, q.off + 3, none⟩ = some (.int .i64 Z.f3) ∧ W.cell? ⟨q.block, q.off + 4, none⟩ = some (.slice A5 Z.f4.length c5)
def impl_SameAnswers.l1 : Nat → List S87 → List S87 → Int → Int → Int → Int → Int → Option Bool
  | 0, _, _, _, _, _, _, _ => none
  | k + 1, l3, m3, ta, ia, tb, ib, key => if key < 32 then (impl_mayWrite.f (chainF l3 key) ta ia).bind fun p => (impl_mayWrite.f (chainF m3 key) tb ib).bind fun q => if p = q then impl_SameAnswers.l1 k l3 m3 ta ia tb ib (wrap64 (key + 1)) else some false else some true
def implSameScan (k : Nat) (a0_0 a0_1 : Int) (l2 : List S83) (l3 : List S87) (b0_0 b0_1 : Int) (m2 : List S83) (m3 : List S87) (Y Z : S83) : Option Bool := (impl_Engine_scan.f k a0_0 a0_1 l2 l3 Y.f0 Y.f1 Y.f2 Y.f3 Y.f4 0 31).bind fun c => (impl_Engine_scan.f k b0_0 b0_1 m2 m3 Z.f0 Z.f1 Z.f2 Z.f3 Z.f4 0 31).bind fun d => slices_Equal_impl_Cell.f k c d
def impl_SameAnswers.l0 : Nat → Int → Int → List S83 → List S87 → Int → Int → List S83 → List S87 → List Int → Int → Option Bool
  | 0, _, _, _, _, _, _, _, _, _, _ => none
  | k + 1, a0_0, a0_1, l2, l3, b0_0, b0_1, m2, m3, x, i => if i < (x.length : Int) then
      (if etxF l2 (rd x i) = 0 ∧ etxF m2 (rd x i) = 0 then
      (implSameScan k a0_0 a0_1 l2 l3 b0_0 b0_1 m2 m3 (l2.getD (Lb.idx (fun u : S83 => u.f0 == rd x i) l2).toNat z83) (m2.getD (Lb.idx (fun u : S83 => u.f0 == rd x i) m2).toNat z83)).bind fun q => if q = true then
      ((impl_SameAnswers.l1 k l3 m3 (l2.getD (Lb.idx (fun u : S83 => u.f0 == rd x i) l2).toNat z83).f1 (l2.getD (Lb.idx (fun u : S83 => u.f0 == rd x i) l2).toNat z83).f0 (m2.getD (Lb.idx (fun u : S83 => u.f0 == rd x i) m2).toNat z83).f1 (m2.getD (Lb.idx (fun u : S83 => u.f0 == rd x i) m2).toNat z83).f0 0).bind fun z => if z = true then impl_SameAnswers.l0 k a0_0 a0_1 l2 l3 b0_0 b0_1 m2 m3 x (wrap64 (i + 1)) else some false) else some false else none) else some true
def impl_SameAnswers.f (k : Nat) (a0_0 a0_1 : Int) (l2 : List S83) (l3 : List S87) (b0_0 b0_1 : Int) (m2 : List S83) (m3 : List S87) : Option Bool := (impl_EngineFault.f k a0_0 a0_1 l2 l3).bind fun fa => if fa = 0 then ((impl_EngineFault.f k b0_0 b0_1 m2 m3).bind fun fb => if fb = 0 then (if a0_1 = b0_1 then (if a0_0 = b0_0 then (impl_Engine_open.f k a0_0 a0_1 l2 l3).bind fun x => (impl_Engine_open.f k b0_0 b0_1 m2 m3).bind fun y => (slices_Equal_int64.f k x y).bind fun q => if q = true then impl_SameAnswers.l0 k a0_0 a0_1 l2 l3 b0_0 b0_1 m2 m3 x 0 else some false else some false) else some false) else some false) else some false


/-! ### laws_FnExactSameAnswers: function 9 -/
def laws_FnExactSameAnswers.f (k : Nat) (a0_0 : Int) (a0_1 : Int) (l0_2 : List (S139)) (l0_3 : List (S143)) (a1_0 : Int) (a1_1 : Int) (l1_2 : List (S139)) (l1_3 : List (S143)) : Option (Bool) := (laws_szEngine.f k a0_0 a0_1 l0_2 l0_3 1048576).bind fun t522 => (if t522 < 0 then (some true) else ((laws_szEngine.f k a1_0 a1_1 l1_2 l1_3 t522).bind fun t523 => (if t523 < 0 then (some true) else ((laws_toEngine.f k a0_0 a0_1 l0_2 l0_3).bind fun bt524 => ((laws_toEngine.f k a1_0 a1_1 l1_2 l1_3).bind fun bt532 => ((spec_SameAnswers.f k bt524.1 bt524.2.1 bt524.2.2.1 bt524.2.2.2 bt532.1 bt532.2.1 bt532.2.2.1 bt532.2.2.2).bind fun t540 => ((laws_toEngine.f k a0_0 a0_1 l0_2 l0_3).bind fun bt541 => ((laws_toEngine.f k a1_0 a1_1 l1_2 l1_3).bind fun bt550 => ((impl_SameAnswers.f k bt541.1 bt541.2.1 bt541.2.2.1 bt541.2.2.2 bt550.1 bt550.2.1 bt550.2.2.1 bt550.2.2.2).bind fun t559 => (if (t559 != t540) = true then (some false) else ((laws_toEngine.f k a0_0 a0_1 l0_2 l0_3).bind fun bt560 => ((laws_eqEngine.f k bt541.1 bt541.2.1 bt541.2.2.1 bt541.2.2.2 bt560.1 bt560.2.1 bt560.2.2.1 bt560.2.2.2).bind fun t568 => (if t568 = true then ((laws_toEngine.f k a1_0 a1_1 l1_2 l1_3).bind fun bt569 => ((laws_eqEngine.f k bt550.1 bt550.2.1 bt550.2.2.1 bt550.2.2.2 bt569.1 bt569.2.1 bt569.2.2.1 bt569.2.2.2).bind fun t577 => (if t577 = true then (some true) else (some false)))) else (some false))))))))))))))

end Go.Proofs.Ytonbnmaelepcbaa.P
