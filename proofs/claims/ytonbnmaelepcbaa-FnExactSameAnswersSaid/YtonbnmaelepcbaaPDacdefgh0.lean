-- Printed by this session's own program over the kit's print (wip/tools/mp.py). Not trusted: Lean checks it.
import Derived.Test.YtonbnmaelepcbaaP0
import Derived.Test.YtonbnmaelepcbaaPDm0
import Derived.Test.YtonbnmaelepcbaaLb
namespace Go.Proofs.Ytonbnmaelepcbaa.P
open Go.RowKit Go.Proofs.YtonbnmaelepcbaaW.PrintWords Go.Proofs.YtonbnmaelepcbaaW.PrintLast Go.Proofs.YtonbnmaelepcbaaW.PrintMore
attribute [local go_sem] max2_int min2_int max_two min_two max_three min_three max_four min_four   -- for this text's walks alone
set_option linter.unusedVariables false
set_option linter.unusedSimpArgs false

/-! ### laws_szUndoS: function 133 -/
def laws_szUndoS.f (l0 : List (S171)) (a1 : Int) : Option (Int) := if (wrap64 (a1 - (l0.length : Int))) < 0 then (some (-1)) else (some (wrap64 (a1 - (l0.length : Int))))

/-! ### laws_szTxn: function 107 -/
def laws_szTxn.f (a0_0 : Int) (a0_1 : Int) (a0_2 : Int) (a0_3 : Int) (l0_4 : List (S171)) (a1 : Int) : Option (Int) := (laws_szUndoS.f l0_4 a1).bind fun t102 => (if t102 < 0 then (some (-1)) else (some t102))

/-! ### laws_szTxnS: function 48 -/
def laws_szTxnS.l0 : Nat → List (S139) → Int → Int → Option (Int)
  | 0, _, _, _ => none
  | k + 1, x0, x1, x5 => if x5 < (x0.length : Int) then (if 0 ≤ x5 then ((laws_szTxn.f ((rd_T139 x0 x5).f0) ((rd_T139 x0 x5).f1) ((rd_T139 x0 x5).f2) ((rd_T139 x0 x5).f3) ((rd_T139 x0 x5).f4) x1).bind fun t104 => (if t104 < 0 then (some (-1)) else (laws_szTxnS.l0 k x0 t104 (wrap64 (x5 + 1))))) else (none)) else (some x1)
def laws_szTxnS.f (k : Nat) (l0 : List (S139)) (a1 : Int) : Option (Int) := if (wrap64 (a1 - (l0.length : Int))) < 0 then (some (-1)) else (laws_szTxnS.l0 k l0 (wrap64 (a1 - (l0.length : Int))) 0)

/-! ### laws_szVersionS: function 134 -/
def laws_szVersionS.f (l0 : List (S173)) (a1 : Int) : Option (Int) := if (wrap64 (a1 - (l0.length : Int))) < 0 then (some (-1)) else (some (wrap64 (a1 - (l0.length : Int))))

/-! ### laws_szRow: function 108 -/
def laws_szRow.f (a0_0 : Int) (l0_1 : List (S173)) (a1 : Int) : Option (Int) := (laws_szVersionS.f l0_1 a1).bind fun t106 => (if t106 < 0 then (some (-1)) else (some t106))

/-! ### laws_szRowS: function 49 -/
def laws_szRowS.l0 : Nat → List (S143) → Int → Int → Option (Int)
  | 0, _, _, _ => none
  | k + 1, x0, x1, x5 => if x5 < (x0.length : Int) then (if 0 ≤ x5 then ((laws_szRow.f ((rd_T143 x0 x5).f0) ((rd_T143 x0 x5).f1) x1).bind fun t108 => (if t108 < 0 then (some (-1)) else (laws_szRowS.l0 k x0 t108 (wrap64 (x5 + 1))))) else (none)) else (some x1)
def laws_szRowS.f (k : Nat) (l0 : List (S143)) (a1 : Int) : Option (Int) := if (wrap64 (a1 - (l0.length : Int))) < 0 then (some (-1)) else (laws_szRowS.l0 k l0 (wrap64 (a1 - (l0.length : Int))) 0)

/-! ### laws_szEngine: function 11 -/
def laws_szEngine.f (k : Nat) (a0_0 : Int) (a0_1 : Int) (l0_2 : List (S139)) (l0_3 : List (S143)) (a1 : Int) : Option (Int) := (laws_szTxnS.f k l0_2 a1).bind fun t110 => (if t110 < 0 then (some (-1)) else ((laws_szRowS.f k l0_3 t110).bind fun t111 => (if t111 < 0 then (some (-1)) else (some t111))))

/-! ### spec_l5Txn: function 109 -/
def spec_l5Txn.f (a0 : Int) : Option (Bool) := (spec_l1In.f a0 1 999).bind fun t112 => (some t112)

/-! ### spec_l5At: function 146 -/
def spec_l5At.f (a0 : Int) : Option (Bool) := (spec_l1In.f a0 1 1000000).bind fun t115 => (some t115)

/-! ### spec_ChainFault: function 136 -/
mutual
def spec_ChainFault.l0 : Nat → List (S90) → Int → Option (Int)
  | 0, _, _ => none
  | k + 1, x0, x3 => if x3 < (x0.length : Int) then (if 0 ≤ x3 then ((spec_l5Txn.f ((rd_T90 x0 x3).f0)).bind fun t118 => (if t118 = true then (if ((rd_T90 x0 x3).f1) = 0 then ((spec_l1Value.f ((rd_T90 x0 x3).f3)).bind fun t119 => (spec_ChainFault.j1 k x0 x3 (!t119) ((rd_T90 x0 x3).f0) ((rd_T90 x0 x3).f1) ((rd_T90 x0 x3).f2) ((rd_T90 x0 x3).f3))) else ((spec_l5At.f ((rd_T90 x0 x3).f1)).bind fun t120 => (if t120 = true then ((spec_l1Value.f ((rd_T90 x0 x3).f3)).bind fun t121 => (spec_ChainFault.j1 k x0 x3 (!t121) ((rd_T90 x0 x3).f0) ((rd_T90 x0 x3).f1) ((rd_T90 x0 x3).f2) ((rd_T90 x0 x3).f3))) else (spec_ChainFault.j1 k x0 x3 true ((rd_T90 x0 x3).f0) ((rd_T90 x0 x3).f1) ((rd_T90 x0 x3).f2) ((rd_T90 x0 x3).f3))))) else (spec_ChainFault.j1 k x0 x3 true ((rd_T90 x0 x3).f0) ((rd_T90 x0 x3).f1) ((rd_T90 x0 x3).f2) ((rd_T90 x0 x3).f3)))) else (none)) else (some 0)
def spec_ChainFault.j1 : Nat → List (S90) → Int → Bool → Int → Int → Bool → Int → Option (Int)
  | 0, _, _, _, _, _, _, _ => none
  | k + 1, x0, x3, x38, x118000, x118001, x118002, x118003 => if x38 = true then (some 3) else (if x118002 = true then (if x118003 = 0 then (if x118001 = 0 then (if x3 > 0 then (some 1) else (spec_ChainFault.l0 k x0 (wrap64 (x3 + 1)))) else (if x3 > 0 then (if 0 ≤ (wrap64 (x3 - 1)) then (if (wrap64 (x3 - 1)) < (x0.length : Int) then (if ((rd_T90 x0 (wrap64 (x3 - 1))).f1) = 0 then (spec_ChainFault.l0 k x0 (wrap64 (x3 + 1))) else (if x118001 ≥ ((rd_T90 x0 (wrap64 (x3 - 1))).f1) then (some 1) else (spec_ChainFault.l0 k x0 (wrap64 (x3 + 1))))) else (none)) else (none)) else (spec_ChainFault.l0 k x0 (wrap64 (x3 + 1))))) else (some 1)) else (if x118001 = 0 then (if x3 > 0 then (some 1) else (spec_ChainFault.l0 k x0 (wrap64 (x3 + 1)))) else (if x3 > 0 then (if 0 ≤ (wrap64 (x3 - 1)) then (if (wrap64 (x3 - 1)) < (x0.length : Int) then (if ((rd_T90 x0 (wrap64 (x3 - 1))).f1) = 0 then (spec_ChainFault.l0 k x0 (wrap64 (x3 + 1))) else (if x118001 ≥ ((rd_T90 x0 (wrap64 (x3 - 1))).f1) then (some 1) else (spec_ChainFault.l0 k x0 (wrap64 (x3 + 1))))) else (none)) else (none)) else (spec_ChainFault.l0 k x0 (wrap64 (x3 + 1))))))
end
def spec_ChainFault.f (k : Nat) (l0 : List (S90)) : Option (Int) := if (l0.length : Int) > 12 then (some 2) else (spec_ChainFault.l0 k l0 0)

/-! ### spec_l5Writer: function 138 -/
def spec_l5Writer.f (l0 : List (S90)) : Option (Int) := if (l0.length : Int) > 0 then (if 0 < (l0.length : Int) then (if ((rd_T90 l0 0).f1) = 0 then (some ((rd_T90 l0 0).f0)) else (some 0)) else (none)) else (some 0)

/-! ### spec_l6Fault: function 50 -/
-- NEEDS Derived.Test.YtonbnmaelepcbaaLb
def inB (a lo hi : Int) : Bool := decide (lo ≤ a) && decide (a ≤ hi)
def scanI (f : Nat → Int) : Nat → Nat → Int
  | 0, _ => 0
  | m + 1, i => if f i = 0 then scanI f m (i + 1) else f i
def undoBad (u : S96) : Bool := (!u.f1 && (u.f2 || u.f3 != 0)) || (u.f2 && u.f3 != 0)
def undoF (u : S96) : Int := if inB u.f0 0 31 = true then (if inB u.f3 0 9999 = true then (if undoBad u = true then 1 else 0) else 3) else 3
def undosF (l : List S96) : Int := if l.length > 60 then 2 else scanI (fun i => undoF (l.getD i z96)) l.length 0
def txnBad (l : List S83) (i : Nat) (t q : S83) : Bool := (decide (0 < i) && decide (t.f0 ≤ q.f0)) || ((!(t.f3 == 0) && (!(t.f2 == 2) || decide (t.f3 ≤ t.f1))) || (decide (0 < t.f4.length) && !(t.f2 == 1)))
def txnF (nx ck : Int) (l : List S83) (i : Nat) (t q : S83) : Int := if (inB t.f0 1 (nx - 1) && (inB t.f1 0 ck && (inB t.f2 1 3 && inB t.f3 0 ck))) = true then (if txnBad l i t q = true then 1 else undosF t.f4) else 3
def txnsF (nx ck : Int) (l : List S83) : Int := scanI (fun i => txnF nx ck l i (l.getD i z83) (l.getD (i - 1) z83)) l.length 0
def writerF (l : List S90) : Int := if (decide (0 < l.length) && ((l.getD 0 z90).f1 == 0)) = true then (l.getD 0 z90).f0 else 0
def openF (txns : List S83) (key : Int) (chain : List S90) : Bool :=
  if (writerF chain == 0) = true then true else
    decide (0 ≤ Lb.idx (fun u : S83 => u.f0 == writerF chain) txns) && (((txns.getD (Lb.idx (fun u : S83 => u.f0 == writerF chain) txns).toNat z83).f2 == 1) && ((txns.getD (Lb.idx (fun u : S83 => u.f0 == writerF chain) txns).toNat z83).f4.any fun u => u.f0 == key))
def rowBad (i : Nat) (t q : S87) : Bool := (decide (0 < i) && decide (t.f0 ≤ q.f0)) || ((t.f1.length : Int) == 0)
def rowAtV (ck : Int) (txns : List S83) (t : S87) (v0 v1 : S90) : Bool := decide (ck < v0.f1) || ((decide ((1 : Int) < (t.f1.length : Int)) && decide (ck < v1.f1)) || !openF txns t.f0 t.f1)
def rowAt (ck : Int) (txns : List S83) (t : S87) : Bool := rowAtV ck txns t (t.f1.getD 0 z90) (t.f1.getD 1 z90)
def rowF (cf : List S90 → Int) (ck : Int) (txns : List S83) (i : Nat) (t q : S87) : Int := if inB t.f0 0 31 = true then (if rowBad i t q = true then 1 else if cf t.f1 = 0 then (if rowAt ck txns t = true then 1 else 0) else cf t.f1) else 3
def rowsF (cf : List S90 → Int) (ck : Int) (txns : List S83) (l : List S87) : Int := scanI (fun i => rowF cf ck txns i (l.getD i z87) (l.getD (i - 1) z87)) l.length 0
def ownAt (rows : List S87) (key : Int) : Int := Lb.idx (fun u : S87 => u.f0 == key) rows
def ownBad (rows : List S87) (id : Int) (key : Int) : Bool := decide (ownAt rows key < 0) || !(writerF (rows.getD (ownAt rows key).toNat z87).f1 == id)
def ownF (rows : List S87) (id : Int) (us : List S96) (i : Nat) (u : S96) : Int := if ownBad rows id u.f0 = true then 1 else if u.f1 = (us.take i).any (fun x => x.f0 == u.f0) then 0 else 1
def ownsI (rows : List S87) (id : Int) (us : List S96) : Int := scanI (fun i => ownF rows id us i (us.getD i z96)) us.length 0
def ownsF (rows : List S87) (id : Int) (us : List S96) : Bool := ownsI rows id us == 0
def ownIf (rows : List S87) (t : S83) : Int := if ownsF rows t.f0 t.f4 = true then 0 else 1
def ownAll (txns : List S83) (rows : List S87) : Int := scanI (fun i => ownIf rows (txns.getD i z83)) txns.length 0
def faultF (cf : List S90 → Int) (nx ck : Int) (txns : List S83) (rows : List S87) : Int :=
  if inB nx 1 999 = true then (if inB ck 0 1000000 = true then (if 20 < txns.length ∨ 32 < rows.length then 2 else if txnsF nx ck txns = 0 then (if rowsF cf ck txns rows = 0 then ownAll txns rows else rowsF cf ck txns rows) else txnsF nx ck txns) else 3) else 3
/-- What l6Fault tells; 'none' where a chain's fault is not known in k rounds. -/
def spec_l6Fault.cf (k : Nat) (l : List S90) : Int := (spec_ChainFault.f k l).getD 0
def spec_l6Fault.f (k : Nat) (s0_0 s0_1 : Int) (s0_2 : List S83) (s0_3 : List S87) : Option Int :=
  if (s0_3.all fun r => (spec_ChainFault.f k r.f1).isSome) = true then some (faultF (spec_l6Fault.cf k) s0_0 s0_1 s0_2 s0_3) else none

/-! ### laws_toUndo: function 148 -/
def laws_toUndo.f (a0_0 : Int) (a0_1 : Bool) (a0_2 : Bool) (a0_3 : Int) : Option (Int × Bool × Bool × Int) := some (a0_0, a0_1, a0_2, a0_3)

/-! ### laws_toUndoS: function 139 -/
def laws_toUndoS.l0 : Nat → List (S171) → List (S96) → Int → Option ((List (S96)))
  | 0, _, _, _ => none
  | k + 1, x0, x3, x4 => if x4 < (x0.length : Int) then (if 0 ≤ x4 then ((laws_toUndo.f ((rd_T171 x0 x4).f0) ((rd_T171 x0 x4).f1) ((rd_T171 x0 x4).f2) ((rd_T171 x0 x4).f3)).bind fun bt137 => (if x4 < (x3.length : Int) then (laws_toUndoS.l0 k x0 (x3.set (x4 : Int).toNat (⟨bt137.1, bt137.2.1, bt137.2.2.1, bt137.2.2.2⟩ : S96)) (wrap64 (x4 + 1))) else (none))) else (none)) else (some x3)
def laws_toUndoS.f (k : Nat) (l0 : List (S171)) : Option ((List (S96))) := if 0 ≤ (l0.length : Int) then (if ((l0.length : Int) : Int).toNat ≤ 11728124029610 then (laws_toUndoS.l0 k l0 (List.replicate ((l0.length : Int) : Int).toNat z96) 0) else (none)) else (none)

/-! ### laws_toTxn: function 114 -/
def laws_toTxn.f (k : Nat) (a0_0 : Int) (a0_1 : Int) (a0_2 : Int) (a0_3 : Int) (l0_4 : List (S171)) : Option (Int × Int × Int × Int × (List (S96))) := (laws_toUndoS.f k l0_4).bind fun t145 => (some (a0_0, a0_1, a0_2, a0_3, t145))

/-! ### laws_toTxnS: function 51 -/
def laws_toTxnS.l0 : Nat → List (S139) → List (S83) → Int → Option ((List (S83)))
  | 0, _, _, _ => none
  | k + 1, x0, x3, x4 => if x4 < (x0.length : Int) then (if 0 ≤ x4 then ((laws_toTxn.f k ((rd_T139 x0 x4).f0) ((rd_T139 x0 x4).f1) ((rd_T139 x0 x4).f2) ((rd_T139 x0 x4).f3) ((rd_T139 x0 x4).f4)).bind fun bt152 => (if x4 < (x3.length : Int) then (laws_toTxnS.l0 k x0 (x3.set (x4 : Int).toNat (⟨bt152.1, bt152.2.1, bt152.2.2.1, bt152.2.2.2.1, bt152.2.2.2.2⟩ : S83)) (wrap64 (x4 + 1))) else (none))) else (none)) else (some x3)
def laws_toTxnS.f (k : Nat) (l0 : List (S139)) : Option ((List (S83))) := if 0 ≤ (l0.length : Int) then (if ((l0.length : Int) : Int).toNat ≤ 5026338869833 then (laws_toTxnS.l0 k l0 (List.replicate ((l0.length : Int) : Int).toNat z83) 0) else (none)) else (none)

/-! ### laws_toVersion: function 149 -/
def laws_toVersion.f (a0_0 : Int) (a0_1 : Int) (a0_2 : Bool) (a0_3 : Int) : Option (Int × Int × Bool × Int) := some (a0_0, a0_1, a0_2, a0_3)

/-! ### laws_toVersionS: function 140 -/
def laws_toVersionS.l0 : Nat → List (S173) → List (S90) → Int → Option ((List (S90)))
  | 0, _, _, _ => none
  | k + 1, x0, x3, x4 => if x4 < (x0.length : Int) then (if 0 ≤ x4 then ((laws_toVersion.f ((rd_T173 x0 x4).f0) ((rd_T173 x0 x4).f1) ((rd_T173 x0 x4).f2) ((rd_T173 x0 x4).f3)).bind fun bt167 => (if x4 < (x3.length : Int) then (laws_toVersionS.l0 k x0 (x3.set (x4 : Int).toNat (⟨bt167.1, bt167.2.1, bt167.2.2.1, bt167.2.2.2⟩ : S90)) (wrap64 (x4 + 1))) else (none))) else (none)) else (some x3)
def laws_toVersionS.f (k : Nat) (l0 : List (S173)) : Option ((List (S90))) := if 0 ≤ (l0.length : Int) then (if ((l0.length : Int) : Int).toNat ≤ 8796093022208 then (laws_toVersionS.l0 k l0 (List.replicate ((l0.length : Int) : Int).toNat z90) 0) else (none)) else (none)

/-! ### laws_toRow: function 115 -/
def laws_toRow.f (k : Nat) (a0_0 : Int) (l0_1 : List (S173)) : Option (Int × (List (S90))) := (laws_toVersionS.f k l0_1).bind fun t175 => (some (a0_0, t175))

/-! ### laws_toRowS: function 52 -/
def laws_toRowS.l0 : Nat → List (S143) → List (S87) → Int → Option ((List (S87)))
  | 0, _, _, _ => none
  | k + 1, x0, x3, x4 => if x4 < (x0.length : Int) then (if 0 ≤ x4 then ((laws_toRow.f k ((rd_T143 x0 x4).f0) ((rd_T143 x0 x4).f1)).bind fun bt182 => (if x4 < (x3.length : Int) then (laws_toRowS.l0 k x0 (x3.set (x4 : Int).toNat (⟨bt182.1, bt182.2⟩ : S87)) (wrap64 (x4 + 1))) else (none))) else (none)) else (some x3)
def laws_toRowS.f (k : Nat) (l0 : List (S143)) : Option ((List (S87))) := if 0 ≤ (l0.length : Int) then (if ((l0.length : Int) : Int).toNat ≤ 8796093022208 then (laws_toRowS.l0 k l0 (List.replicate ((l0.length : Int) : Int).toNat z87) 0) else (none)) else (none)

/-! ### laws_toEngine: function 13 -/
def laws_toEngine.f (k : Nat) (a0_0 : Int) (a0_1 : Int) (l0_2 : List (S139)) (l0_3 : List (S143)) : Option (Int × Int × (List (S83)) × (List (S87))) := (laws_toTxnS.f k l0_2).bind fun t190 => ((laws_toRowS.f k l0_3).bind fun t193 => (some (a0_0, a0_1, t190, t193)))

/-! ### impl_isTxn: function 53 -/
def impl_isTxn.f (a0 : Int) : Option (Bool) := (impl_within.f a0 1 999).bind fun t196 => (some t196)

/-! ### impl_isLsn: function 54 -/
def impl_isLsn.f (a0 : Int) : Option (Bool) := (impl_within.f a0 0 1000000).bind fun t197 => (some t197)

/-! ### impl_undosFault: function 56 -/
mutual
def impl_undosFault.l0 : Nat → List (S96) → Int → Int → Option (Int)
  | 0, _, _, _ => none
  | k + 1, x8, x9, x10 => if x10 < x9 then (if 0 ≤ x10 then (if x10 < (x8.length : Int) then ((impl_isKey.f ((rd_T96 x8 x10).f0)).bind fun t202 => (if t202 = true then ((impl_isValue.f ((rd_T96 x8 x10).f3)).bind fun t203 => (impl_undosFault.j1 k x8 x9 x10 (!t203) ((rd_T96 x8 x10).f0) ((rd_T96 x8 x10).f1) ((rd_T96 x8 x10).f2) ((rd_T96 x8 x10).f3))) else (impl_undosFault.j1 k x8 x9 x10 true ((rd_T96 x8 x10).f0) ((rd_T96 x8 x10).f1) ((rd_T96 x8 x10).f2) ((rd_T96 x8 x10).f3)))) else (none)) else (none)) else (some 0)
def impl_undosFault.j1 : Nat → List (S96) → Int → Int → Bool → Int → Bool → Bool → Int → Option (Int)
  | 0, _, _, _, _, _, _, _, _ => none
  | k + 1, x8, x9, x10, x14, x202000, x202001, x202002, x202003 => if x14 = true then (some 3) else (if x202001 = true then (impl_undosFault.j2 k x8 x9 x10 false x202000 x202001 x202002 x202003) else (if x202002 = true then (impl_undosFault.j2 k x8 x9 x10 true x202000 x202001 x202002 x202003) else (impl_undosFault.j2 k x8 x9 x10 (x202003 != 0) x202000 x202001 x202002 x202003)))
def impl_undosFault.j2 : Nat → List (S96) → Int → Int → Bool → Int → Bool → Bool → Int → Option (Int)
  | 0, _, _, _, _, _, _, _, _ => none
  | k + 1, x8, x9, x10, x25, x202000, x202001, x202002, x202003 => if x25 = true then (some 1) else (if x202002 = true then (if x202003 = 0 then (impl_undosFault.l0 k x8 x9 (wrap64 (x10 + 1))) else (some 1)) else (impl_undosFault.l0 k x8 x9 (wrap64 (x10 + 1))))
end
def impl_undosFault.f (k : Nat) (l0 : List (S96)) : Option (Int) := if (l0.length : Int) > 60 then (some 2) else (impl_undosFault.l0 k l0 (l0.length : Int) 0)

/-! ### impl_ChainFault: function 58 -/
mutual
def impl_ChainFault.l0 : Nat → List (S90) → List (S90) → Int → Int → Option (Int)
  | 0, _, _, _, _ => none
  | k + 1, x0, x8, x9, x10 => if x10 < x9 then (if 0 ≤ x10 then (if x10 < (x8.length : Int) then ((impl_isTxn.f ((rd_T90 x8 x10).f0)).bind fun t206 => (if t206 = true then ((impl_isLsn.f ((rd_T90 x8 x10).f1)).bind fun t207 => (if t207 = true then ((impl_isValue.f ((rd_T90 x8 x10).f3)).bind fun t208 => (impl_ChainFault.j1 k x0 x10 x8 x9 x10 (!t208) ((rd_T90 x8 x10).f0) ((rd_T90 x8 x10).f1) ((rd_T90 x8 x10).f2) ((rd_T90 x8 x10).f3))) else (impl_ChainFault.j1 k x0 x10 x8 x9 x10 true ((rd_T90 x8 x10).f0) ((rd_T90 x8 x10).f1) ((rd_T90 x8 x10).f2) ((rd_T90 x8 x10).f3)))) else (impl_ChainFault.j1 k x0 x10 x8 x9 x10 true ((rd_T90 x8 x10).f0) ((rd_T90 x8 x10).f1) ((rd_T90 x8 x10).f2) ((rd_T90 x8 x10).f3)))) else (none)) else (none)) else (some 0)
def impl_ChainFault.j1 : Nat → List (S90) → Int → List (S90) → Int → Int → Bool → Int → Int → Bool → Int → Option (Int)
  | 0, _, _, _, _, _, _, _, _, _, _ => none
  | k + 1, x0, x3, x8, x9, x10, x15, x206000, x206001, x206002, x206003 => if x15 = true then (some 3) else (if x206002 = true then (impl_ChainFault.j2 k x0 x3 x8 x9 x10 (x206003 != 0) x206000 x206001 x206002 x206003) else (impl_ChainFault.j2 k x0 x3 x8 x9 x10 false x206000 x206001 x206002 x206003))
def impl_ChainFault.j2 : Nat → List (S90) → Int → List (S90) → Int → Int → Bool → Int → Int → Bool → Int → Option (Int)
  | 0, _, _, _, _, _, _, _, _, _, _ => none
  | k + 1, x0, x3, x8, x9, x10, x32, x206000, x206001, x206002, x206003 => if x32 = true then (some 1) else (if x206001 = 0 then (impl_ChainFault.j3 k x0 x3 x8 x9 x10 (decide (x3 > 0)) x206000 x206001 x206002 x206003) else (impl_ChainFault.j3 k x0 x3 x8 x9 x10 false x206000 x206001 x206002 x206003))
def impl_ChainFault.j3 : Nat → List (S90) → Int → List (S90) → Int → Int → Bool → Int → Int → Bool → Int → Option (Int)
  | 0, _, _, _, _, _, _, _, _, _, _ => none
  | k + 1, x0, x3, x8, x9, x10, x32, x206000, x206001, x206002, x206003 => if x32 = true then (some 1) else (if x3 > 0 then (if 0 ≤ (wrap64 (x3 - 1)) then (if (wrap64 (x3 - 1)) < (x0.length : Int) then (if ((rd_T90 x0 (wrap64 (x3 - 1))).f1) = 0 then (impl_ChainFault.l0 k x0 x8 x9 (wrap64 (x10 + 1))) else (if x206001 ≥ ((rd_T90 x0 (wrap64 (x3 - 1))).f1) then (some 1) else (impl_ChainFault.l0 k x0 x8 x9 (wrap64 (x10 + 1))))) else (none)) else (none)) else (impl_ChainFault.l0 k x0 x8 x9 (wrap64 (x10 + 1))))
end
def impl_ChainFault.f (k : Nat) (l0 : List (S90)) : Option (Int) := if (l0.length : Int) > 12 then (some 2) else (impl_ChainFault.l0 k l0 l0 (l0.length : Int) 0)

/-! ### slices_IndexFunc_impl_Version: function 117 -/

/-! ### slices_ContainsFunc_impl_Version: function 59 -/

/-! ### slices_IndexFunc_impl_Txn: function 118 -/

/-! ### slices_ContainsFunc_impl_Txn: function 61 -/

/-! ### slices_IndexFunc_impl_Undo: function 120 -/

/-! ### slices_ContainsFunc_impl_Undo: function 64 -/

/-! ### impl_isOpenOf: function 66 -/
def impl_isOpenOf.f (l0 : List (S90)) (a1 : Int) : Option (Bool) := if (l0.length : Int) > 0 then (if 0 < (l0.length : Int) then (if ((rd_T90 l0 0).f1) = 0 then (some (((rd_T90 l0 0).f0) == a1)) else (some false)) else (none)) else (some false)

/-! ### slices_BinarySearchFunc_impl_Row: function 141 -/

/-! ### impl_EngineFault: function 14 -/
-- NEEDS Derived.Test.YtonbnmaelepcbaaLb
def undoesF (t : S83) (key : Int) : Bool := (t.f2 == 1) && t.f4.any fun u => u.f0 == key
def rowC (key : Int) (x : S87) : Int := wrap64 (x.f0 - key)
def chainF (rows : List S87) (key : Int) : List S90 := if Lb.bsHit (rowC key) z87 rows = true then (rows.getD (Lb.bs (rowC key) z87 rows).toNat z87).f1 else []
def txnG (uf : List S96 → Int) (nx ck : Int) (l : List S83) (i : Nat) (t q : S83) : Int := if (inB t.f0 1 (nx - 1) && (inB t.f1 0 ck && (inB t.f2 1 3 && inB t.f3 0 ck))) = true then (if txnBad l i t q = true then 1 else uf t.f4) else 3
def txnsG (uf : List S96 → Int) (nx ck : Int) (l : List S83) : Int := scanI (fun i => txnG uf nx ck l i (l.getD i z83) (l.getD (i - 1) z83)) l.length 0
def fstBad (ck : Int) (txns : List S83) (key : Int) (ch : List S90) (v : S90) : Bool := ch.any (fun x => decide (ck < x.f1)) || ((v.f1 == 0) && !(txns.any fun t => (t.f0 == v.f0) && undoesF t key))
def rowG (cf : List S90 → Int) (ck : Int) (txns : List S83) (i : Nat) (t q : S87) : Int := if inB t.f0 0 31 = true then (if rowBad i t q = true then 1 else if cf t.f1 = 0 then (if fstBad ck txns t.f0 t.f1 (t.f1.getD 0 z90) = true then 1 else 0) else cf t.f1) else 3
def rowsG (cf : List S90 → Int) (ck : Int) (txns : List S83) (l : List S87) : Int := scanI (fun i => rowG cf ck txns i (l.getD i z87) (l.getD (i - 1) z87)) l.length 0
def isOpF (l : List S90) (a : Int) : Bool := decide (0 < l.length) && (((l.getD 0 z90).f1 == 0) && ((l.getD 0 z90).f0 == a))
def ownG (rows : List S87) (id : Int) (us : List S96) (i : Nat) (u : S96) : Int := if isOpF (chainF rows u.f0) id = true then (if ((!(us.take i).any (fun x => x.f0 == u.f0)) == u.f1) = true then 1 else 0) else 1
def ownT (rows : List S87) (t : S83) : Int := scanI (fun i => ownG rows t.f0 t.f4 i (t.f4.getD i z96)) t.f4.length 0
def ownsG (txns : List S83) (rows : List S87) : Int := scanI (fun i => ownT rows (txns.getD i z83)) txns.length 0
def enF (uf : List S96 → Int) (cf : List S90 → Int) (nx ck : Int) (txns : List S83) (rows : List S87) : Int :=
  if inB nx 1 999 = true then (if inB ck 0 1000000 = true then (if 20 < txns.length ∨ 32 < rows.length then 2 else if txnsG uf nx ck txns = 0 then (if rowsG cf ck txns rows = 0 then ownsG txns rows else rowsG cf ck txns rows) else txnsG uf nx ck txns) else 3) else 3
/-- What EngineFault tells; 'none' where an undo list's or a chain's fault is not known in k rounds. -/
def impl_EngineFault.uf (k : Nat) (l : List S96) : Int := (impl_undosFault.f k l).getD 0
def impl_EngineFault.cf (k : Nat) (l : List S90) : Int := (impl_ChainFault.f k l).getD 0
def impl_EngineFault.f (k : Nat) (a0_0 : Int) (a0_1 : Int) (l0_2 : List S83) (l0_3 : List S87) : Option Int :=
  if (l0_2.all fun t => (impl_undosFault.f k t.f4).isSome) = true then (if (l0_3.all fun r => (impl_ChainFault.f k r.f1).isSome) = true then some (enF (impl_EngineFault.uf k) (impl_EngineFault.cf k) a0_0 a0_1 l0_2 l0_3) else none) else none

end Go.Proofs.Ytonbnmaelepcbaa.P
