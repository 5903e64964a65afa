-- Printed by this session's own program over the kit's print (wip/tools/mp.py). Not trusted: Lean checks it.
import Derived.Test.YtonbnmaelepcbaaP0
import Derived.Test.YtonbnmaelepcbaaPDacdefgh0
import Derived.Test.YtonbnmaelepcbaaPDm0
import Derived.Test.YtonbnmaelepcbaaLb
import Derived.Test.YtonbnmaelepcbaaLb
namespace Go.Proofs.Ytonbnmaelepcbaa.P
open Go.RowKit Go.Proofs.YtonbnmaelepcbaaW.PrintWords Go.Proofs.YtonbnmaelepcbaaW.PrintLast Go.Proofs.YtonbnmaelepcbaaW.PrintMore
attribute [local go_sem] max2_int min2_int max_two min_two max_three min_three max_four min_four   -- for this text's walks alone
set_option linter.unusedVariables false
set_option linter.unusedSimpArgs false

/-! ### laws_markUndoS: function 131 -/
def laws_markUndoS.l0 : Nat → List (S96) → Int → Int → Option (Int × (List (S96)))
  | 0, _, _, _ => none
  | k + 1, x0, x1, x5 => if x5 < (x0.length : Int) then (if 0 ≤ x5 then ((some (x0.set (x5 : Int).toNat (⟨x1, (rd_T96 x0 x5).f1, (rd_T96 x0 x5).f2, (rd_T96 x0 x5).f3⟩ : S96) : List (S96))).bind fun y308 => ((some (y308.set (x5 : Int).toNat (⟨(rd_T96 y308 x5).f0, ((Int.tmod (wrap64 (x1 + 1)) 3) == 0), (rd_T96 y308 x5).f2, (rd_T96 y308 x5).f3⟩ : S96) : List (S96))).bind fun y309 => ((some (y309.set (x5 : Int).toNat (⟨(rd_T96 y309 x5).f0, (rd_T96 y309 x5).f1, ((Int.tmod (wrap64 ((wrap64 (x1 + 1)) + 1)) 3) == 0), (rd_T96 y309 x5).f3⟩ : S96) : List (S96))).bind fun y310 => (laws_markUndoS.l0 k (y310.set (x5 : Int).toNat (⟨(rd_T96 y310 x5).f0, (rd_T96 y310 x5).f1, (rd_T96 y310 x5).f2, wrap64 ((wrap64 ((wrap64 (x1 + 1)) + 1)) + 1)⟩ : S96)) (wrap64 ((wrap64 ((wrap64 ((wrap64 (x1 + 1)) + 1)) + 1)) + 1)) (wrap64 (x5 + 1)))))) else (none)) else (some (x1, x0))
def laws_markUndoS.f (k : Nat) (l0 : List (S96)) (a1 : Int) : Option (Int × (List (S96))) := laws_markUndoS.l0 k l0 a1 0

/-! ### laws_markVersionS: function 91 -/
def laws_markVersionS.l0 : Nat → List (S90) → Int → Int → Option (Int × (List (S90)))
  | 0, _, _, _ => none
  | k + 1, x0, x1, x5 => if x5 < (x0.length : Int) then (if 0 ≤ x5 then ((some (x0.set (x5 : Int).toNat (⟨x1, (rd_T90 x0 x5).f1, (rd_T90 x0 x5).f2, (rd_T90 x0 x5).f3⟩ : S90) : List (S90))).bind fun y312 => ((some (y312.set (x5 : Int).toNat (⟨(rd_T90 y312 x5).f0, wrap64 (x1 + 1), (rd_T90 y312 x5).f2, (rd_T90 y312 x5).f3⟩ : S90) : List (S90))).bind fun y313 => ((some (y313.set (x5 : Int).toNat (⟨(rd_T90 y313 x5).f0, (rd_T90 y313 x5).f1, ((Int.tmod (wrap64 ((wrap64 (x1 + 1)) + 1)) 3) == 0), (rd_T90 y313 x5).f3⟩ : S90) : List (S90))).bind fun y314 => (laws_markVersionS.l0 k (y314.set (x5 : Int).toNat (⟨(rd_T90 y314 x5).f0, (rd_T90 y314 x5).f1, (rd_T90 y314 x5).f2, wrap64 ((wrap64 ((wrap64 (x1 + 1)) + 1)) + 1)⟩ : S90)) (wrap64 ((wrap64 ((wrap64 ((wrap64 (x1 + 1)) + 1)) + 1)) + 1)) (wrap64 (x5 + 1)))))) else (none)) else (some (x1, x0))
def laws_markVersionS.f (k : Nat) (l0 : List (S90)) (a1 : Int) : Option (Int × (List (S90))) := laws_markVersionS.l0 k l0 a1 0

/-! ### laws_markEngine: function 33 -/
-- NEEDS Derived.Test.YtonbnmaelepcbaaLb
def laws_markTxnS.l0 : Nat → List S83 → Int → Int → Option (Int × List S83)
  | 0, _, _, _ => none
  | k + 1, x0, x1, x5 => if x5 < (x0.length : Int) then (if 0 ≤ x5 then ((laws_markUndoS.f k (rd_T83 x0 x5).f4 (wrap64 ((wrap64 ((wrap64 ((wrap64 (x1 + 1)) + 1)) + 1)) + 1))).bind fun t4 => laws_markTxnS.l0 k (x0.set (x5 : Int).toNat (⟨x1, (wrap64 (x1 + 1)), (wrap64 ((wrap64 (x1 + 1)) + 1)), (wrap64 ((wrap64 ((wrap64 (x1 + 1)) + 1)) + 1)), t4.2⟩ : S83)) t4.1 (wrap64 (x5 + 1))) else none) else some (x1, x0)
def laws_markTxnS.f (k : Nat) (l0 : List S83) (a1 : Int) : Option (Int × List S83) := laws_markTxnS.l0 k l0 a1 0
def laws_markRowS.l0 : Nat → List S87 → Int → Int → Option (Int × List S87)
  | 0, _, _, _ => none
  | k + 1, x0, x1, x5 => if x5 < (x0.length : Int) then (if 0 ≤ x5 then ((laws_markVersionS.f k (rd_T87 x0 x5).f1 (wrap64 (x1 + 1))).bind fun t1 => laws_markRowS.l0 k (x0.set (x5 : Int).toNat (⟨x1, t1.2⟩ : S87)) t1.1 (wrap64 (x5 + 1))) else none) else some (x1, x0)
def laws_markRowS.f (k : Nat) (l0 : List S87) (a1 : Int) : Option (Int × List S87) := laws_markRowS.l0 k l0 a1 0
def laws_markEngine.f (k : Nat) (a0_0 a0_1 : Int) (l0_2 : List S83) (l0_3 : List S87) (a1 : Int) : Option (Int × List S83 × List S87) := (laws_markTxnS.f k l0_2 a1).bind fun m => (laws_markRowS.f k l0_3 m.1).bind fun n => some (n.1, m.2, n.2)


/-! ### spec_l6Row: function 85 -/
-- NEEDS Derived.Test.YtonbnmaelepcbaaLb

def spec_l6Row.f (s0_0 s0_1 : Int) (s0_2 : List S83) (s0_3 : List S87) (a1 : Int) : Option Int := some (Lb.idx (fun u : S87 => u.f0 == a1) s0_3)

/-! ### spec_l6Txn: function 98 -/
-- NEEDS Derived.Test.YtonbnmaelepcbaaLb

def spec_l6Txn.f (s0_0 s0_1 : Int) (s0_2 : List S83) (s0_3 : List S87) (a1 : Int) : Option Int := some (Lb.idx (fun u : S83 => u.f0 == a1) s0_2)

/-! ### spec_l5Seen: function 127 -/
mutual
def spec_l5Seen.l0 : Nat → List (S90) → Int → Int → Int → Option (Int)
  | 0, _, _, _, _ => none
  | k + 1, x0, x5, x387000, x387001 => if x5 < (x0.length : Int) then (if 0 ≤ x5 then (if ((rd_T90 x0 x5).f1) = 0 then (if ((rd_T90 x0 x5).f0) = x387001 then (spec_l5Seen.j1 k x0 x5 true x387000 x387001 ((rd_T90 x0 x5).f0) ((rd_T90 x0 x5).f1) ((rd_T90 x0 x5).f2) ((rd_T90 x0 x5).f3)) else (spec_l5Seen.j1 k x0 x5 false x387000 x387001 ((rd_T90 x0 x5).f0) ((rd_T90 x0 x5).f1) ((rd_T90 x0 x5).f2) ((rd_T90 x0 x5).f3))) else (spec_l5Seen.j1 k x0 x5 (decide (((rd_T90 x0 x5).f1) ≤ x387000)) x387000 x387001 ((rd_T90 x0 x5).f0) ((rd_T90 x0 x5).f1) ((rd_T90 x0 x5).f2) ((rd_T90 x0 x5).f3))) else (none)) else (some (-1))
def spec_l5Seen.j1 : Nat → List (S90) → Int → Bool → Int → Int → Int → Int → Bool → Int → Option (Int)
  | 0, _, _, _, _, _, _, _, _, _ => none
  | k + 1, x0, x5, x38, x387000, x387001, x389000, x389001, x389002, x389003 => if x38 = true then (if x389002 = true then (some (-1)) else (some x5)) else (spec_l5Seen.l0 k x0 (wrap64 (x5 + 1)) x387000 x387001)
end
def spec_l5Seen.f (k : Nat) (l0 : List (S90)) (a1_0 : Int) (a1_1 : Int) : Option (Int) := spec_l5Seen.l0 k l0 0 a1_0 a1_1

/-! ### spec_l6Read: function 80 -/
-- NEEDS Derived.Test.YtonbnmaelepcbaaLb
def spec_l6Read.f (k : Nat) (l3 : List S87) (at_ id key : Int) : Option (Int × Bool) := if Lb.idx (fun u : S87 => u.f0 == key) l3 < 0 then some (0, false) else (spec_l5Seen.f k (l3.getD (Lb.idx (fun u : S87 => u.f0 == key) l3).toNat z87).f1 at_ id).bind fun j => if j < 0 then some (0, false) else if j < ((l3.getD (Lb.idx (fun u : S87 => u.f0 == key) l3).toNat z87).f1.length : Int) then some ((rd_T90 (l3.getD (Lb.idx (fun u : S87 => u.f0 == key) l3).toNat z87).f1 j).f3, true) else none


/-! ### spec_l6View: function 81 -/
-- NEEDS Derived.Test.YtonbnmaelepcbaaLb



/-! ### impl_Engine_txn: function 82 -/
-- NEEDS Derived.Test.YtonbnmaelepcbaaLb
def etxF (txns : List S83) (id : Int) : Int := if Lb.idx (fun u : S83 => u.f0 == id) txns < 0 then 4 else if ((txns.getD (Lb.idx (fun u : S83 => u.f0 == id) txns).toNat z83).f2 == 1) = true then 0 else 10


/-! ### impl_seen: function 129 -/
-- NEEDS Derived.Test.@N@Lb
/-- What a view sees. -/
def impl_seen.p (at_ own : Int) (x : S90) : Bool := (x.f1 == 0 && x.f0 == own) || (decide (x.f1 > 0) && decide (x.f1 ≤ at_))
def impl_seen.f (l0 : List S90) (a1_0 a1_1 : Int) : Option (Int) := some (Go.Proofs.Ytonbnmaelepcbaa.Lb.idx (impl_seen.p a1_0 a1_1) l0)

/-! ### impl_seenValue: function 83 -/
def impl_seenValue.f (l0 : List (S90)) (a1_0 : Int) (a1_1 : Int) : Option (Int × Int) := (impl_seen.f l0 a1_0 a1_1).bind fun t391 => (if t391 < 0 then (some (4, 0)) else (if 0 ≤ t391 then (if t391 < (l0.length : Int) then (if (rd_T90 l0 t391).f2 = true then (some (4, 0)) else (some (0, (rd_T90 l0 t391).f3))) else (none)) else (none)))

/-! ### impl_Txn_view: function 84 -/
def impl_Txn_view.f (a0_0 : Int) (a0_1 : Int) (a0_2 : Int) (a0_3 : Int) (l0_4 : List (S96)) : Option (Int × Int) := some (a0_1, a0_0)

/-! ### laws_heldVersionS: function 92 -/
def laws_heldVersionS.l0 : Nat → List (S90) → Int → Int → Option (Int)
  | 0, _, _, _ => none
  | k + 1, x0, x1, x5 => if x5 < (x0.length : Int) then (if 0 ≤ x5 then (if ((rd_T90 x0 x5).f0) = x1 then (if ((rd_T90 x0 x5).f1) = (wrap64 (x1 + 1)) then (if (((rd_T90 x0 x5).f2) != ((Int.tmod (wrap64 ((wrap64 (x1 + 1)) + 1)) 3) == 0)) = true then (some (-1)) else (if ((rd_T90 x0 x5).f3) = (wrap64 ((wrap64 ((wrap64 (x1 + 1)) + 1)) + 1)) then (laws_heldVersionS.l0 k x0 (wrap64 ((wrap64 ((wrap64 ((wrap64 (x1 + 1)) + 1)) + 1)) + 1)) (wrap64 (x5 + 1))) else (some (-1)))) else (some (-1))) else (some (-1))) else (none)) else (some x1)
def laws_heldVersionS.f (k : Nat) (l0 : List (S90)) (a1 : Int) : Option (Int) := laws_heldVersionS.l0 k l0 a1 0

/-! ### laws_eqCell: function 75 -/
def laws_eqCell.f (a0_0 : Int) (a0_1 : Int) (a1_0 : Int) (a1_1 : Int) : Option (Bool) := if a0_0 = a1_0 then (if a0_1 = a1_1 then (some true) else (some false)) else (some false)

/-! ### laws_eqCellS: function 21 -/
def laws_eqCellS.l0 : Nat → List (S105) → List (S105) → Int → Option (Bool)
  | 0, _, _, _ => none
  | k + 1, x0, x1, x5 => if x5 < (x0.length : Int) then (if 0 ≤ x5 then (if x5 < (x1.length : Int) then ((laws_eqCell.f ((rd_T105 x0 x5).f0) ((rd_T105 x0 x5).f1) ((rd_T105 x1 x5).f0) ((rd_T105 x1 x5).f1)).bind fun t305 => (if t305 = true then (laws_eqCellS.l0 k x0 x1 (wrap64 (x5 + 1))) else (some false))) else (none)) else (none)) else (some true)
def laws_eqCellS.f (k : Nat) (l0 : List (S105)) (l1 : List (S105)) : Option (Bool) := if (l0.length : Int) = (l1.length : Int) then (laws_eqCellS.l0 k l0 l1 0) else (some false)

/-! ### laws_markCellS: function 22 -/
def laws_markCellS.l0 : Nat → List (S105) → Int → Int → Option (Int × (List (S105)))
  | 0, _, _, _ => none
  | k + 1, x0, x1, x5 => if x5 < (x0.length : Int) then (if 0 ≤ x5 then ((some (x0.set (x5 : Int).toNat (⟨x1, (rd_T105 x0 x5).f1⟩ : S105) : List (S105))).bind fun y306 => (laws_markCellS.l0 k (y306.set (x5 : Int).toNat (⟨(rd_T105 y306 x5).f0, wrap64 (x1 + 1)⟩ : S105)) (wrap64 ((wrap64 (x1 + 1)) + 1)) (wrap64 (x5 + 1)))) else (none)) else (some (x1, x0))
def laws_markCellS.f (k : Nat) (l0 : List (S105)) (a1 : Int) : Option (Int × (List (S105))) := laws_markCellS.l0 k l0 a1 0

/-! ### laws_eqIntResult: function 27 -/
def laws_eqIntResult.f (a0_0 : Int) (a0_1 : Int) (a1_0 : Int) (a1_1 : Int) : Option (Bool) := if a0_0 = a1_0 then (if a0_1 = a1_1 then (some true) else (some false)) else (some false)

/-! ### spec_l6Asked: function 79 -/
-- NEEDS Derived.Test.YtonbnmaelepcbaaLb
def askedF (flt : Int) (txns : List S83) (id : Int) : Int × Int := if flt = 0 then (if Lb.idx (fun u : S83 => u.f0 == id) txns < 0 then (0, 4) else if ((txns.getD (Lb.idx (fun u : S83 => u.f0 == id) txns).toNat z83).f2 == 1) = true then (Lb.idx (fun u : S83 => u.f0 == id) txns, 0) else (0, 10)) else (0, flt)


/-! ### spec_OpenTxns: function 36 -/
def spec_OpenTxns.l0 : Nat → Int → Int → Int → List (S83) → List (S87) → Int → List Int → Option (Int × List Int)
  | 0, _, _, _, _, _, _, _ => none
  | k + 1, x5, x452000, x452001, x452002, x452003, x455000, x455001 => if x5 < (x452002.length : Int) then (if 0 ≤ x5 then (if ((rd_T83 x452002 x5).f2) = 1 then (if x455001.length < 17592186044416 then (spec_OpenTxns.l0 k (wrap64 (x5 + 1)) x452000 x452001 x452002 x452003 x455000 (x455001 ++ [(rd_T83 x452002 x5).f0])) else (none)) else (spec_OpenTxns.l0 k (wrap64 (x5 + 1)) x452000 x452001 x452002 x452003 x455000 x455001)) else (none)) else (some (x455000, x455001))
def spec_OpenTxns.f (k : Nat) (a0_0 : Int) (a0_1 : Int) (l0_2 : List (S83)) (l0_3 : List (S87)) : Option (Int × List Int) := (spec_l6Fault.f k a0_0 a0_1 l0_2 l0_3).bind fun t453 => (if t453 = 0 then (spec_OpenTxns.l0 k 0 a0_0 a0_1 l0_2 l0_3 0 ([] : List Int)) else (some (t453, ([] : List Int))))

/-! ### impl_Engine_open: function 93 -/
def impl_Engine_open.l0 : Nat → List Int → List (S83) → Int → Int → Option (List Int)
  | 0, _, _, _, _ => none
  | k + 1, x3, x8, x9, x10 => if x10 < x9 then (if 0 ≤ x10 then (if x10 < (x8.length : Int) then (if ((rd_T83 x8 x10).f2) = 1 then (if x3.length < 17592186044416 then (impl_Engine_open.l0 k (x3 ++ [(rd_T83 x8 x10).f0]) x8 x9 (wrap64 (x10 + 1))) else (none)) else (impl_Engine_open.l0 k x3 x8 x9 (wrap64 (x10 + 1)))) else (none)) else (none)) else (some x3)
def impl_Engine_open.f (k : Nat) (a0_0 : Int) (a0_1 : Int) (l0_2 : List (S83)) (l0_3 : List (S87)) : Option (List Int) := impl_Engine_open.l0 k (([] : List Int)) l0_2 (l0_2.length : Int) 0

/-! ### spec_l6Scan: function 100 -/
-- NEEDS Derived.Test.YtonbnmaelepcbaaLb
def spec_l6Scan.l0 : Nat → List S87 → Int → Int → Int → Int → Int → List S105 → Option (List S105)
  | 0, _, _, _, _, _, _, _ => none
  | k + 1, l3, at_, id, lo, hi, i, acc => if i < (l3.length : Int) then (if 0 ≤ i then (spec_l6Read.f k l3 at_ id (rd_T87 l3 i).f0).bind fun v => if v.2 = true then (if inB (rd_T87 l3 i).f0 lo hi = true then (if acc.length < 8796093022208 then spec_l6Scan.l0 k l3 at_ id lo hi (wrap64 (i + 1)) (acc ++ [(⟨(rd_T87 l3 i).f0, v.1⟩ : S105)]) else none) else spec_l6Scan.l0 k l3 at_ id lo hi (wrap64 (i + 1)) acc) else spec_l6Scan.l0 k l3 at_ id lo hi (wrap64 (i + 1)) acc else none) else some acc
def spec_l6Scan.f (k : Nat) (l3 : List S87) (at_ id lo hi : Int) : Option (List S105) := spec_l6Scan.l0 k l3 at_ id lo hi 0 []


/-! ### impl_Engine_scan: function 104 -/
def impl_Engine_scan.l0 : Nat → Int → Int → List (S105) → List (S87) → Int → Int → Int → Int → Int → Int → List (S96) → Option ((List (S105)))
  | 0, _, _, _, _, _, _, _, _, _, _, _ => none
  | k + 1, x2, x3, x9, x15, x16, x17, x501000, x501001, x501002, x501003, x501004 => if x17 < x16 then (if 0 ≤ x17 then (if x17 < (x15.length : Int) then ((impl_Txn_view.f x501000 x501001 x501002 x501003 x501004).bind fun bt506 => ((impl_seenValue.f ((rd_T87 x15 x17).f1) bt506.1 bt506.2).bind fun bt508 => (if bt508.1 = 0 then ((impl_within.f ((rd_T87 x15 x17).f0) x2 x3).bind fun t511 => (if t511 = true then (if x9.length < 8796093022208 then (impl_Engine_scan.l0 k x2 x3 (x9 ++ [(⟨(rd_T87 x15 x17).f0, bt508.2⟩ : S105)]) x15 x16 (wrap64 (x17 + 1)) x501000 x501001 x501002 x501003 x501004) else (none)) else (impl_Engine_scan.l0 k x2 x3 x9 x15 x16 (wrap64 (x17 + 1)) x501000 x501001 x501002 x501003 x501004))) else (impl_Engine_scan.l0 k x2 x3 x9 x15 x16 (wrap64 (x17 + 1)) x501000 x501001 x501002 x501003 x501004)))) else (none)) else (none)) else (some x9)
def impl_Engine_scan.f (k : Nat) (a0_0 : Int) (a0_1 : Int) (l0_2 : List (S83)) (l0_3 : List (S87)) (a1_0 : Int) (a1_1 : Int) (a1_2 : Int) (a1_3 : Int) (l1_4 : List (S96)) (a2 : Int) (a3 : Int) : Option ((List (S105))) := impl_Engine_scan.l0 k a2 a3 (([] : List (S105))) l0_3 (l0_3.length : Int) 0 a1_0 a1_1 a1_2 a1_3 l1_4

/-! ### spec_EngineFault: function 12 -/
def spec_EngineFault.f (k : Nat) (a0_0 : Int) (a0_1 : Int) (l0_2 : List (S83)) (l0_3 : List (S87)) : Option (Int) := (spec_l6Fault.f k a0_0 a0_1 l0_2 l0_3).bind fun t129 => (some t129)

/-! ### laws_FnExactEngineFault: function 3 -/
def laws_FnExactEngineFault.f (k : Nat) (a0_0 : Int) (a0_1 : Int) (l0_2 : List (S139)) (l0_3 : List (S143)) : Option (Bool) := (laws_szEngine.f k a0_0 a0_1 l0_2 l0_3 1048576).bind fun t242 => (if t242 < 0 then (some true) else ((laws_toEngine.f k a0_0 a0_1 l0_2 l0_3).bind fun bt243 => ((spec_EngineFault.f k bt243.1 bt243.2.1 bt243.2.2.1 bt243.2.2.2).bind fun t251 => ((laws_toEngine.f k a0_0 a0_1 l0_2 l0_3).bind fun bt252 => ((impl_EngineFault.f k bt252.1 bt252.2.1 bt252.2.2.1 bt252.2.2.2).bind fun t261 => (if t261 = t251 then ((laws_toEngine.f k a0_0 a0_1 l0_2 l0_3).bind fun bt262 => ((laws_eqEngine.f k bt252.1 bt252.2.1 bt252.2.2.1 bt252.2.2.2 bt262.1 bt262.2.1 bt262.2.2.1 bt262.2.2.2).bind fun t270 => (if t270 = true then (some true) else (some false)))) else (some false)))))))

end Go.Proofs.Ytonbnmaelepcbaa.P
