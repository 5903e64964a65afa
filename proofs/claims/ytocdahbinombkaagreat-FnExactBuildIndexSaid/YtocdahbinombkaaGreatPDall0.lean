-- Printed by this session's own program over the kit's print (wip/tools/mp.py). Not trusted: Lean checks it.
import Derived.Test.YtocdahbinombkaaGreatP0
import Derived.Test.YtocdahbinombkaaGreatLb
namespace Go.Proofs.YtocdahbinombkaaGreat.P
open Go.RowKit Go.Proofs.YtocdahbinombkaaGreatW.PrintWords Go.Proofs.YtocdahbinombkaaGreatW.PrintLast Go.Proofs.YtocdahbinombkaaGreatW.PrintMore
attribute [local go_sem] max2_int min2_int max_two min_two max_three min_three max_four min_four   -- for this text's walks alone
set_option linter.unusedVariables false
set_option linter.unusedSimpArgs false

/-! ### laws_szUndoS: function 79 -/
def laws_szUndoS.f (l0 : List (S136)) (a1 : Int) : Option (Int) := if (wrap64 (a1 - (l0.length : Int))) < 0 then (some (-1)) else (some (wrap64 (a1 - (l0.length : Int))))

/-! ### laws_szTxn: function 41 -/
def laws_szTxn.f (a0_0 : Int) (a0_1 : Int) (a0_2 : Int) (a0_3 : Int) (l0_4 : List (S136)) (a1 : Int) : Option (Int) := (laws_szUndoS.f l0_4 a1).bind fun t102 => (if t102 < 0 then (some (-1)) else (some t102))

/-! ### laws_szTxnS: function 19 -/
def laws_szTxnS.l0 : Nat → List (S73) → Int → Int → Option (Int)
  | 0, _, _, _ => none
  | k + 1, x0, x1, x5 => if x5 < (x0.length : Int) then (if 0 ≤ x5 then ((laws_szTxn.f ((rd_T73 x0 x5).f0) ((rd_T73 x0 x5).f1) ((rd_T73 x0 x5).f2) ((rd_T73 x0 x5).f3) ((rd_T73 x0 x5).f4) x1).bind fun t104 => (if t104 < 0 then (some (-1)) else (laws_szTxnS.l0 k x0 t104 (wrap64 (x5 + 1))))) else (none)) else (some x1)
def laws_szTxnS.f (k : Nat) (l0 : List (S73)) (a1 : Int) : Option (Int) := if (wrap64 (a1 - (l0.length : Int))) < 0 then (some (-1)) else (laws_szTxnS.l0 k l0 (wrap64 (a1 - (l0.length : Int))) 0)

/-! ### laws_szVersionS: function 80 -/
def laws_szVersionS.f (l0 : List (S138)) (a1 : Int) : Option (Int) := if (wrap64 (a1 - (l0.length : Int))) < 0 then (some (-1)) else (some (wrap64 (a1 - (l0.length : Int))))

/-! ### laws_szRow: function 42 -/
def laws_szRow.f (a0_0 : Int) (l0_1 : List (S138)) (a1 : Int) : Option (Int) := (laws_szVersionS.f l0_1 a1).bind fun t106 => (if t106 < 0 then (some (-1)) else (some t106))

/-! ### laws_szRowS: function 20 -/
def laws_szRowS.l0 : Nat → List (S77) → Int → Int → Option (Int)
  | 0, _, _, _ => none
  | k + 1, x0, x1, x5 => if x5 < (x0.length : Int) then (if 0 ≤ x5 then ((laws_szRow.f ((rd_T77 x0 x5).f0) ((rd_T77 x0 x5).f1) x1).bind fun t108 => (if t108 < 0 then (some (-1)) else (laws_szRowS.l0 k x0 t108 (wrap64 (x5 + 1))))) else (none)) else (some x1)
def laws_szRowS.f (k : Nat) (l0 : List (S77)) (a1 : Int) : Option (Int) := if (wrap64 (a1 - (l0.length : Int))) < 0 then (some (-1)) else (laws_szRowS.l0 k l0 (wrap64 (a1 - (l0.length : Int))) 0)

/-! ### laws_szEngine: function 5 -/
def laws_szEngine.f (k : Nat) (a0_0 : Int) (a0_1 : Int) (l0_2 : List (S73)) (l0_3 : List (S77)) (a1 : Int) : Option (Int) := (laws_szTxnS.f k l0_2 a1).bind fun t110 => (if t110 < 0 then (some (-1)) else ((laws_szRowS.f k l0_3 t110).bind fun t111 => (if t111 < 0 then (some (-1)) else (some t111))))

/-! ### spec_l1In: function 44 -/
def spec_l1In.f (a0 : Int) (a1 : Int) (a2 : Int) : Option (Bool) := if a0 ≥ a1 then (some (decide (a0 ≤ a2))) else (some false)

/-! ### spec_l5Txn: function 43 -/
def spec_l5Txn.f (a0 : Int) : Option (Bool) := (spec_l1In.f a0 1 999).bind fun t112 => (some t112)

/-! ### spec_l1Value: function 48 -/
def spec_l1Value.f (a0 : Int) : Option (Bool) := (spec_l1In.f a0 0 9999).bind fun t113 => (some t113)

/-! ### spec_l1Key: function 49 -/
def spec_l1Key.f (a0 : Int) : Option (Bool) := (spec_l1In.f a0 0 31).bind fun t114 => (some t114)

/-! ### spec_l5At: function 99 -/
def spec_l5At.f (a0 : Int) : Option (Bool) := (spec_l1In.f a0 1 1000000).bind fun t115 => (some t115)

/-! ### spec_ChainFault: function 82 -/
mutual
def spec_ChainFault.l0 : Nat → List (S89) → Int → Option (Int)
  | 0, _, _ => none
  | k + 1, x0, x3 => if x3 < (x0.length : Int) then (if 0 ≤ x3 then ((spec_l5Txn.f ((rd_T89 x0 x3).f0)).bind fun t118 => (if t118 = true then (if ((rd_T89 x0 x3).f1) = 0 then ((spec_l1Value.f ((rd_T89 x0 x3).f3)).bind fun t119 => (spec_ChainFault.j1 k x0 x3 (!t119) ((rd_T89 x0 x3).f0) ((rd_T89 x0 x3).f1) ((rd_T89 x0 x3).f2) ((rd_T89 x0 x3).f3))) else ((spec_l5At.f ((rd_T89 x0 x3).f1)).bind fun t120 => (if t120 = true then ((spec_l1Value.f ((rd_T89 x0 x3).f3)).bind fun t121 => (spec_ChainFault.j1 k x0 x3 (!t121) ((rd_T89 x0 x3).f0) ((rd_T89 x0 x3).f1) ((rd_T89 x0 x3).f2) ((rd_T89 x0 x3).f3))) else (spec_ChainFault.j1 k x0 x3 true ((rd_T89 x0 x3).f0) ((rd_T89 x0 x3).f1) ((rd_T89 x0 x3).f2) ((rd_T89 x0 x3).f3))))) else (spec_ChainFault.j1 k x0 x3 true ((rd_T89 x0 x3).f0) ((rd_T89 x0 x3).f1) ((rd_T89 x0 x3).f2) ((rd_T89 x0 x3).f3)))) else (none)) else (some 0)
def spec_ChainFault.j1 : Nat → List (S89) → Int → Bool → Int → Int → Bool → Int → Option (Int)
  | 0, _, _, _, _, _, _, _ => none
  | k + 1, x0, x3, x38, x118000, x118001, x118002, x118003 => if x38 = true then (some 3) else (if x118002 = true then (if x118003 = 0 then (if x118001 = 0 then (if x3 > 0 then (some 1) else (spec_ChainFault.l0 k x0 (wrap64 (x3 + 1)))) else (if x3 > 0 then (if 0 ≤ (wrap64 (x3 - 1)) then (if (wrap64 (x3 - 1)) < (x0.length : Int) then (if ((rd_T89 x0 (wrap64 (x3 - 1))).f1) = 0 then (spec_ChainFault.l0 k x0 (wrap64 (x3 + 1))) else (if x118001 ≥ ((rd_T89 x0 (wrap64 (x3 - 1))).f1) then (some 1) else (spec_ChainFault.l0 k x0 (wrap64 (x3 + 1))))) else (none)) else (none)) else (spec_ChainFault.l0 k x0 (wrap64 (x3 + 1))))) else (some 1)) else (if x118001 = 0 then (if x3 > 0 then (some 1) else (spec_ChainFault.l0 k x0 (wrap64 (x3 + 1)))) else (if x3 > 0 then (if 0 ≤ (wrap64 (x3 - 1)) then (if (wrap64 (x3 - 1)) < (x0.length : Int) then (if ((rd_T89 x0 (wrap64 (x3 - 1))).f1) = 0 then (spec_ChainFault.l0 k x0 (wrap64 (x3 + 1))) else (if x118001 ≥ ((rd_T89 x0 (wrap64 (x3 - 1))).f1) then (some 1) else (spec_ChainFault.l0 k x0 (wrap64 (x3 + 1))))) else (none)) else (none)) else (spec_ChainFault.l0 k x0 (wrap64 (x3 + 1))))))
end
def spec_ChainFault.f (k : Nat) (l0 : List (S89)) : Option (Int) := if (l0.length : Int) > 12 then (some 2) else (spec_ChainFault.l0 k l0 0)

/-! ### spec_l5Writer: function 85 -/
def spec_l5Writer.f (l0 : List (S89)) : Option (Int) := if (l0.length : Int) > 0 then (if 0 < (l0.length : Int) then (if ((rd_T89 l0 0).f1) = 0 then (some ((rd_T89 l0 0).f0)) else (some 0)) else (none)) else (some 0)

/-! ### spec_l6Fault: function 21 -/
-- NEEDS Derived.Test.YtocdahbinombkaaGreatLb
def inB (a lo hi : Int) : Bool := decide (lo ≤ a) && decide (a ≤ hi)
def scanI (f : Nat → Int) : Nat → Nat → Int
  | 0, _ => 0
  | m + 1, i => if f i = 0 then scanI f m (i + 1) else f i
def undoBad (u : S100) : Bool := (!u.f1 && (u.f2 || u.f3 != 0)) || (u.f2 && u.f3 != 0)
def undoF (u : S100) : Int := if inB u.f0 0 31 = true then (if inB u.f3 0 9999 = true then (if undoBad u = true then 1 else 0) else 3) else 3
def undosF (l : List S100) : Int := if l.length > 60 then 2 else scanI (fun i => undoF (l.getD i z100)) l.length 0
def txnBad (l : List S84) (i : Nat) (t q : S84) : Bool := (decide (0 < i) && decide (t.f0 ≤ q.f0)) || ((!(t.f3 == 0) && (!(t.f2 == 2) || decide (t.f3 ≤ t.f1))) || (decide (0 < t.f4.length) && !(t.f2 == 1)))
def txnF (nx ck : Int) (l : List S84) (i : Nat) (t q : S84) : Int := if (inB t.f0 1 (nx - 1) && (inB t.f1 0 ck && (inB t.f2 1 3 && inB t.f3 0 ck))) = true then (if txnBad l i t q = true then 1 else undosF t.f4) else 3
def txnsF (nx ck : Int) (l : List S84) : Int := scanI (fun i => txnF nx ck l i (l.getD i z84) (l.getD (i - 1) z84)) l.length 0
def writerF (l : List S89) : Int := if (decide (0 < l.length) && ((l.getD 0 z89).f1 == 0)) = true then (l.getD 0 z89).f0 else 0
def openF (txns : List S84) (key : Int) (chain : List S89) : Bool :=
  if (writerF chain == 0) = true then true else
    decide (0 ≤ Lb.idx (fun u : S84 => u.f0 == writerF chain) txns) && (((txns.getD (Lb.idx (fun u : S84 => u.f0 == writerF chain) txns).toNat z84).f2 == 1) && ((txns.getD (Lb.idx (fun u : S84 => u.f0 == writerF chain) txns).toNat z84).f4.any fun u => u.f0 == key))
def rowBad (i : Nat) (t q : S87) : Bool := (decide (0 < i) && decide (t.f0 ≤ q.f0)) || ((t.f1.length : Int) == 0)
def rowAtV (ck : Int) (txns : List S84) (t : S87) (v0 v1 : S89) : Bool := decide (ck < v0.f1) || ((decide ((1 : Int) < (t.f1.length : Int)) && decide (ck < v1.f1)) || !openF txns t.f0 t.f1)
def rowAt (ck : Int) (txns : List S84) (t : S87) : Bool := rowAtV ck txns t (t.f1.getD 0 z89) (t.f1.getD 1 z89)
def rowF (cf : List S89 → Int) (ck : Int) (txns : List S84) (i : Nat) (t q : S87) : Int := if inB t.f0 0 31 = true then (if rowBad i t q = true then 1 else if cf t.f1 = 0 then (if rowAt ck txns t = true then 1 else 0) else cf t.f1) else 3
def rowsF (cf : List S89 → Int) (ck : Int) (txns : List S84) (l : List S87) : Int := scanI (fun i => rowF cf ck txns i (l.getD i z87) (l.getD (i - 1) z87)) l.length 0
def ownAt (rows : List S87) (key : Int) : Int := Lb.idx (fun u : S87 => u.f0 == key) rows
def ownBad (rows : List S87) (id : Int) (key : Int) : Bool := decide (ownAt rows key < 0) || !(writerF (rows.getD (ownAt rows key).toNat z87).f1 == id)
def ownF (rows : List S87) (id : Int) (us : List S100) (i : Nat) (u : S100) : Int := if ownBad rows id u.f0 = true then 1 else if u.f1 = (us.take i).any (fun x => x.f0 == u.f0) then 0 else 1
def ownsI (rows : List S87) (id : Int) (us : List S100) : Int := scanI (fun i => ownF rows id us i (us.getD i z100)) us.length 0
def ownsF (rows : List S87) (id : Int) (us : List S100) : Bool := ownsI rows id us == 0
def ownIf (rows : List S87) (t : S84) : Int := if ownsF rows t.f0 t.f4 = true then 0 else 1
def ownAll (txns : List S84) (rows : List S87) : Int := scanI (fun i => ownIf rows (txns.getD i z84)) txns.length 0
def faultF (cf : List S89 → Int) (nx ck : Int) (txns : List S84) (rows : List S87) : Int :=
  if inB nx 1 999 = true then (if inB ck 0 1000000 = true then (if 20 < txns.length ∨ 32 < rows.length then 2 else if txnsF nx ck txns = 0 then (if rowsF cf ck txns rows = 0 then ownAll txns rows else rowsF cf ck txns rows) else txnsF nx ck txns) else 3) else 3
/-- What l6Fault tells; 'none' where a chain's fault is not known in k rounds. -/
def spec_l6Fault.cf (k : Nat) (l : List S89) : Int := (spec_ChainFault.f k l).getD 0
def spec_l6Fault.f (k : Nat) (s0_0 s0_1 : Int) (s0_2 : List S84) (s0_3 : List S87) : Option Int :=
  if (s0_3.all fun r => (spec_ChainFault.f k r.f1).isSome) = true then some (faultF (spec_l6Fault.cf k) s0_0 s0_1 s0_2 s0_3) else none

/-! ### spec_l8Behind: function 50 -/
def spec_l8Behind.f (a0_0 : Int) (a0_1 : Int) (a1_0 : Int) (a1_1 : Int) : Option (Bool) := if a0_0 = a1_0 then (some (decide (a0_1 < a1_1))) else (some (decide (a0_0 < a1_0)))

/-! ### spec_l8Add: function 51 -/
def spec_l8Add.l0 : Nat → List (S55) → Int → Int → Int → Option ((List (S55)))
  | 0, _, _, _, _ => none
  | k + 1, x0, x5, x138000, x138001 => if x5 < (x0.length : Int) then (if 0 ≤ x5 then ((spec_l8Behind.f ((rd_T55 x0 x5).f0) ((rd_T55 x0 x5).f1) x138000 x138001).bind fun t139 => (if t139 = true then (spec_l8Add.l0 k x0 (wrap64 (x5 + 1)) x138000 x138001) else (if (((rd_T55 x0 x5).f0) == x138000 && (((rd_T55 x0 x5).f1) == x138001)) = true then ((some (([] : List (S55)) : List (S55))).bind fun y141 => (if y141.length + x0.length < 8796093022208 then (some (y141 ++ x0)) else (none))) else ((some (([] : List (S55)) : List (S55))).bind fun y147 => (if x5 ≤ (x0.length : Int) then ((some (x0.take (x5 : Int).toNat : List (S55))).bind fun y150 => (if y147.length + y150.length < 8796093022208 then ((some (y147 ++ y150 : List (S55))).bind fun y154 => ((some (([(⟨x138000, x138001⟩ : S55)] : List (S55)) : List (S55))).bind fun y157 => (if y154.length + y157.length < 8796093022208 then ((some (y154 ++ y157 : List (S55))).bind fun y160 => ((some (x0.drop (x5 : Int).toNat : List (S55))).bind fun y163 => (if y160.length + y163.length < 8796093022208 then (some (y160 ++ y163)) else (none)))) else (none)))) else (none))) else (none)))))) else (none)) else ((some (([] : List (S55)) : List (S55))).bind fun y170 => (if 0 ≤ x5 then (if x5 ≤ (x0.length : Int) then ((some (x0.take (x5 : Int).toNat : List (S55))).bind fun y173 => (if y170.length + y173.length < 8796093022208 then ((some (y170 ++ y173 : List (S55))).bind fun y177 => ((some (([(⟨x138000, x138001⟩ : S55)] : List (S55)) : List (S55))).bind fun y180 => (if y177.length + y180.length < 8796093022208 then ((some (y177 ++ y180 : List (S55))).bind fun y183 => ((some (x0.drop (x5 : Int).toNat : List (S55))).bind fun y186 => (if y183.length + y186.length < 8796093022208 then (some (y183 ++ y186)) else (none)))) else (none)))) else (none))) else (none)) else (none)))
def spec_l8Add.f (k : Nat) (l0 : List (S55)) (a1_0 : Int) (a1_1 : Int) : Option ((List (S55))) := spec_l8Add.l0 k l0 0 a1_0 a1_1

/-! ### spec_l8Build: function 23 -/
def spec_l8Build.in_ (k : Nat) (key : Int) : List S89 → List S55 → Option (List S55)
  | [], acc => some acc
  | v :: vs, acc => if v.f2 = true then spec_l8Build.in_ k key vs acc else (spec_l8Add.f k acc v.f3 key).bind fun acc2 => spec_l8Build.in_ k key vs acc2
def spec_l8Build.out (k : Nat) : List S87 → List S55 → Option (List S55)
  | [], acc => some acc
  | r :: rs, acc => (spec_l8Build.in_ k r.f0 r.f1 acc).bind fun acc2 => spec_l8Build.out k rs acc2
def spec_l8Build.f (k : Nat) (s0_0 s0_1 : Int) (s0_2 : List S84) (s0_3 : List S87) : Option (List S55) := spec_l8Build.out k s0_3 []

/-! ### laws_toUndo: function 102 -/
def laws_toUndo.f (a0_0 : Int) (a0_1 : Bool) (a0_2 : Bool) (a0_3 : Int) : Option (Int × Bool × Bool × Int) := some (a0_0, a0_1, a0_2, a0_3)

/-! ### laws_toUndoS: function 86 -/
def laws_toUndoS.l0 : Nat → List (S136) → List (S100) → Int → Option ((List (S100)))
  | 0, _, _, _ => none
  | k + 1, x0, x3, x4 => if x4 < (x0.length : Int) then (if 0 ≤ x4 then ((laws_toUndo.f ((rd_T136 x0 x4).f0) ((rd_T136 x0 x4).f1) ((rd_T136 x0 x4).f2) ((rd_T136 x0 x4).f3)).bind fun bt210 => (if x4 < (x3.length : Int) then (laws_toUndoS.l0 k x0 (x3.set (x4 : Int).toNat (⟨bt210.1, bt210.2.1, bt210.2.2.1, bt210.2.2.2⟩ : S100)) (wrap64 (x4 + 1))) else (none))) else (none)) else (some x3)
def laws_toUndoS.f (k : Nat) (l0 : List (S136)) : Option ((List (S100))) := if 0 ≤ (l0.length : Int) then (if ((l0.length : Int) : Int).toNat ≤ 11728124029610 then (laws_toUndoS.l0 k l0 (List.replicate ((l0.length : Int) : Int).toNat z100) 0) else (none)) else (none)

/-! ### laws_toTxn: function 52 -/
def laws_toTxn.f (k : Nat) (a0_0 : Int) (a0_1 : Int) (a0_2 : Int) (a0_3 : Int) (l0_4 : List (S136)) : Option (Int × Int × Int × Int × (List (S100))) := (laws_toUndoS.f k l0_4).bind fun t218 => (some (a0_0, a0_1, a0_2, a0_3, t218))

/-! ### laws_toTxnS: function 25 -/
def laws_toTxnS.l0 : Nat → List (S73) → List (S84) → Int → Option ((List (S84)))
  | 0, _, _, _ => none
  | k + 1, x0, x3, x4 => if x4 < (x0.length : Int) then (if 0 ≤ x4 then ((laws_toTxn.f k ((rd_T73 x0 x4).f0) ((rd_T73 x0 x4).f1) ((rd_T73 x0 x4).f2) ((rd_T73 x0 x4).f3) ((rd_T73 x0 x4).f4)).bind fun bt225 => (if x4 < (x3.length : Int) then (laws_toTxnS.l0 k x0 (x3.set (x4 : Int).toNat (⟨bt225.1, bt225.2.1, bt225.2.2.1, bt225.2.2.2.1, bt225.2.2.2.2⟩ : S84)) (wrap64 (x4 + 1))) else (none))) else (none)) else (some x3)
def laws_toTxnS.f (k : Nat) (l0 : List (S73)) : Option ((List (S84))) := if 0 ≤ (l0.length : Int) then (if ((l0.length : Int) : Int).toNat ≤ 5026338869833 then (laws_toTxnS.l0 k l0 (List.replicate ((l0.length : Int) : Int).toNat z84) 0) else (none)) else (none)

/-! ### laws_toVersion: function 103 -/
def laws_toVersion.f (a0_0 : Int) (a0_1 : Int) (a0_2 : Bool) (a0_3 : Int) : Option (Int × Int × Bool × Int) := some (a0_0, a0_1, a0_2, a0_3)

/-! ### laws_toVersionS: function 87 -/
def laws_toVersionS.l0 : Nat → List (S138) → List (S89) → Int → Option ((List (S89)))
  | 0, _, _, _ => none
  | k + 1, x0, x3, x4 => if x4 < (x0.length : Int) then (if 0 ≤ x4 then ((laws_toVersion.f ((rd_T138 x0 x4).f0) ((rd_T138 x0 x4).f1) ((rd_T138 x0 x4).f2) ((rd_T138 x0 x4).f3)).bind fun bt240 => (if x4 < (x3.length : Int) then (laws_toVersionS.l0 k x0 (x3.set (x4 : Int).toNat (⟨bt240.1, bt240.2.1, bt240.2.2.1, bt240.2.2.2⟩ : S89)) (wrap64 (x4 + 1))) else (none))) else (none)) else (some x3)
def laws_toVersionS.f (k : Nat) (l0 : List (S138)) : Option ((List (S89))) := if 0 ≤ (l0.length : Int) then (if ((l0.length : Int) : Int).toNat ≤ 8796093022208 then (laws_toVersionS.l0 k l0 (List.replicate ((l0.length : Int) : Int).toNat z89) 0) else (none)) else (none)

/-! ### laws_toRow: function 53 -/
def laws_toRow.f (k : Nat) (a0_0 : Int) (l0_1 : List (S138)) : Option (Int × (List (S89))) := (laws_toVersionS.f k l0_1).bind fun t248 => (some (a0_0, t248))

/-! ### laws_toRowS: function 26 -/
def laws_toRowS.l0 : Nat → List (S77) → List (S87) → Int → Option ((List (S87)))
  | 0, _, _, _ => none
  | k + 1, x0, x3, x4 => if x4 < (x0.length : Int) then (if 0 ≤ x4 then ((laws_toRow.f k ((rd_T77 x0 x4).f0) ((rd_T77 x0 x4).f1)).bind fun bt255 => (if x4 < (x3.length : Int) then (laws_toRowS.l0 k x0 (x3.set (x4 : Int).toNat (⟨bt255.1, bt255.2⟩ : S87)) (wrap64 (x4 + 1))) else (none))) else (none)) else (some x3)
def laws_toRowS.f (k : Nat) (l0 : List (S77)) : Option ((List (S87))) := if 0 ≤ (l0.length : Int) then (if ((l0.length : Int) : Int).toNat ≤ 8796093022208 then (laws_toRowS.l0 k l0 (List.replicate ((l0.length : Int) : Int).toNat z87) 0) else (none)) else (none)

/-! ### laws_toEngine: function 8 -/
def laws_toEngine.f (k : Nat) (a0_0 : Int) (a0_1 : Int) (l0_2 : List (S73)) (l0_3 : List (S77)) : Option (Int × Int × (List (S84)) × (List (S87))) := (laws_toTxnS.f k l0_2).bind fun t263 => ((laws_toRowS.f k l0_3).bind fun t266 => (some (a0_0, a0_1, t263, t266)))

/-! ### impl_within: function 56 -/
def impl_within.f (a0 : Int) (a1 : Int) (a2 : Int) : Option (Bool) := if a1 ≤ a0 then (some (decide (a0 ≤ a2))) else (some false)

/-! ### impl_isTxn: function 54 -/
def impl_isTxn.f (a0 : Int) : Option (Bool) := (impl_within.f a0 1 999).bind fun t279 => (some t279)

/-! ### impl_isLsn: function 55 -/
def impl_isLsn.f (a0 : Int) : Option (Bool) := (impl_within.f a0 0 1000000).bind fun t280 => (some t280)

/-! ### impl_isKey: function 58 -/
def impl_isKey.f (a0 : Int) : Option (Bool) := (impl_within.f a0 0 31).bind fun t281 => (some t281)

/-! ### impl_isValue: function 69 -/
def impl_isValue.f (a0 : Int) : Option (Bool) := (impl_within.f a0 0 9999).bind fun t282 => (some t282)

/-! ### impl_undosFault: function 57 -/
mutual
def impl_undosFault.l0 : Nat → List (S100) → Int → Int → Option (Int)
  | 0, _, _, _ => none
  | k + 1, x8, x9, x10 => if x10 < x9 then (if 0 ≤ x10 then (if x10 < (x8.length : Int) then ((impl_isKey.f ((rd_T100 x8 x10).f0)).bind fun t285 => (if t285 = true then ((impl_isValue.f ((rd_T100 x8 x10).f3)).bind fun t286 => (impl_undosFault.j1 k x8 x9 x10 (!t286) ((rd_T100 x8 x10).f0) ((rd_T100 x8 x10).f1) ((rd_T100 x8 x10).f2) ((rd_T100 x8 x10).f3))) else (impl_undosFault.j1 k x8 x9 x10 true ((rd_T100 x8 x10).f0) ((rd_T100 x8 x10).f1) ((rd_T100 x8 x10).f2) ((rd_T100 x8 x10).f3)))) else (none)) else (none)) else (some 0)
def impl_undosFault.j1 : Nat → List (S100) → Int → Int → Bool → Int → Bool → Bool → Int → Option (Int)
  | 0, _, _, _, _, _, _, _, _ => none
  | k + 1, x8, x9, x10, x14, x285000, x285001, x285002, x285003 => if x14 = true then (some 3) else (if x285001 = true then (impl_undosFault.j2 k x8 x9 x10 false x285000 x285001 x285002 x285003) else (if x285002 = true then (impl_undosFault.j2 k x8 x9 x10 true x285000 x285001 x285002 x285003) else (impl_undosFault.j2 k x8 x9 x10 (x285003 != 0) x285000 x285001 x285002 x285003)))
def impl_undosFault.j2 : Nat → List (S100) → Int → Int → Bool → Int → Bool → Bool → Int → Option (Int)
  | 0, _, _, _, _, _, _, _, _ => none
  | k + 1, x8, x9, x10, x25, x285000, x285001, x285002, x285003 => if x25 = true then (some 1) else (if x285002 = true then (if x285003 = 0 then (impl_undosFault.l0 k x8 x9 (wrap64 (x10 + 1))) else (some 1)) else (impl_undosFault.l0 k x8 x9 (wrap64 (x10 + 1))))
end
def impl_undosFault.f (k : Nat) (l0 : List (S100)) : Option (Int) := if (l0.length : Int) > 60 then (some 2) else (impl_undosFault.l0 k l0 (l0.length : Int) 0)

/-! ### impl_ChainFault: function 59 -/
mutual
def impl_ChainFault.l0 : Nat → List (S89) → List (S89) → Int → Int → Option (Int)
  | 0, _, _, _, _ => none
  | k + 1, x0, x8, x9, x10 => if x10 < x9 then (if 0 ≤ x10 then (if x10 < (x8.length : Int) then ((impl_isTxn.f ((rd_T89 x8 x10).f0)).bind fun t289 => (if t289 = true then ((impl_isLsn.f ((rd_T89 x8 x10).f1)).bind fun t290 => (if t290 = true then ((impl_isValue.f ((rd_T89 x8 x10).f3)).bind fun t291 => (impl_ChainFault.j1 k x0 x10 x8 x9 x10 (!t291) ((rd_T89 x8 x10).f0) ((rd_T89 x8 x10).f1) ((rd_T89 x8 x10).f2) ((rd_T89 x8 x10).f3))) else (impl_ChainFault.j1 k x0 x10 x8 x9 x10 true ((rd_T89 x8 x10).f0) ((rd_T89 x8 x10).f1) ((rd_T89 x8 x10).f2) ((rd_T89 x8 x10).f3)))) else (impl_ChainFault.j1 k x0 x10 x8 x9 x10 true ((rd_T89 x8 x10).f0) ((rd_T89 x8 x10).f1) ((rd_T89 x8 x10).f2) ((rd_T89 x8 x10).f3)))) else (none)) else (none)) else (some 0)
def impl_ChainFault.j1 : Nat → List (S89) → Int → List (S89) → Int → Int → Bool → Int → Int → Bool → Int → Option (Int)
  | 0, _, _, _, _, _, _, _, _, _, _ => none
  | k + 1, x0, x3, x8, x9, x10, x15, x289000, x289001, x289002, x289003 => if x15 = true then (some 3) else (if x289002 = true then (impl_ChainFault.j2 k x0 x3 x8 x9 x10 (x289003 != 0) x289000 x289001 x289002 x289003) else (impl_ChainFault.j2 k x0 x3 x8 x9 x10 false x289000 x289001 x289002 x289003))
def impl_ChainFault.j2 : Nat → List (S89) → Int → List (S89) → Int → Int → Bool → Int → Int → Bool → Int → Option (Int)
  | 0, _, _, _, _, _, _, _, _, _, _ => none
  | k + 1, x0, x3, x8, x9, x10, x32, x289000, x289001, x289002, x289003 => if x32 = true then (some 1) else (if x289001 = 0 then (impl_ChainFault.j3 k x0 x3 x8 x9 x10 (decide (x3 > 0)) x289000 x289001 x289002 x289003) else (impl_ChainFault.j3 k x0 x3 x8 x9 x10 false x289000 x289001 x289002 x289003))
def impl_ChainFault.j3 : Nat → List (S89) → Int → List (S89) → Int → Int → Bool → Int → Int → Bool → Int → Option (Int)
  | 0, _, _, _, _, _, _, _, _, _, _ => none
  | k + 1, x0, x3, x8, x9, x10, x32, x289000, x289001, x289002, x289003 => if x32 = true then (some 1) else (if x3 > 0 then (if 0 ≤ (wrap64 (x3 - 1)) then (if (wrap64 (x3 - 1)) < (x0.length : Int) then (if ((rd_T89 x0 (wrap64 (x3 - 1))).f1) = 0 then (impl_ChainFault.l0 k x0 x8 x9 (wrap64 (x10 + 1))) else (if x289001 ≥ ((rd_T89 x0 (wrap64 (x3 - 1))).f1) then (some 1) else (impl_ChainFault.l0 k x0 x8 x9 (wrap64 (x10 + 1))))) else (none)) else (none)) else (impl_ChainFault.l0 k x0 x8 x9 (wrap64 (x10 + 1))))
end
def impl_ChainFault.f (k : Nat) (l0 : List (S89)) : Option (Int) := if (l0.length : Int) > 12 then (some 2) else (impl_ChainFault.l0 k l0 l0 (l0.length : Int) 0)

/-! ### slices_IndexFunc_impl_Version: function 88 -/

/-! ### slices_ContainsFunc_impl_Version: function 60 -/

/-! ### slices_IndexFunc_impl_Txn: function 89 -/

/-! ### slices_ContainsFunc_impl_Txn: function 62 -/

/-! ### slices_IndexFunc_impl_Undo: function 91 -/

/-! ### slices_ContainsFunc_impl_Undo: function 65 -/

/-! ### impl_isOpenOf: function 67 -/
def impl_isOpenOf.f (l0 : List (S89)) (a1 : Int) : Option (Bool) := if (l0.length : Int) > 0 then (if 0 < (l0.length : Int) then (if ((rd_T89 l0 0).f1) = 0 then (some (((rd_T89 l0 0).f0) == a1)) else (some false)) else (none)) else (some false)

/-! ### slices_BinarySearchFunc_impl_Row: function 104 -/

/-! ### impl_EngineFault: function 28 -/
-- NEEDS Derived.Test.YtocdahbinombkaaGreatLb
def undoesF (t : S84) (key : Int) : Bool := (t.f2 == 1) && t.f4.any fun u => u.f0 == key
def rowC (key : Int) (x : S87) : Int := wrap64 (x.f0 - key)
def chainF (rows : List S87) (key : Int) : List S89 := if Lb.bsHit (rowC key) z87 rows = true then (rows.getD (Lb.bs (rowC key) z87 rows).toNat z87).f1 else []
def txnG (uf : List S100 → Int) (nx ck : Int) (l : List S84) (i : Nat) (t q : S84) : Int := if (inB t.f0 1 (nx - 1) && (inB t.f1 0 ck && (inB t.f2 1 3 && inB t.f3 0 ck))) = true then (if txnBad l i t q = true then 1 else uf t.f4) else 3
def txnsG (uf : List S100 → Int) (nx ck : Int) (l : List S84) : Int := scanI (fun i => txnG uf nx ck l i (l.getD i z84) (l.getD (i - 1) z84)) l.length 0
def fstBad (ck : Int) (txns : List S84) (key : Int) (ch : List S89) (v : S89) : Bool := ch.any (fun x => decide (ck < x.f1)) || ((v.f1 == 0) && !(txns.any fun t => (t.f0 == v.f0) && undoesF t key))
def rowG (cf : List S89 → Int) (ck : Int) (txns : List S84) (i : Nat) (t q : S87) : Int := if inB t.f0 0 31 = true then (if rowBad i t q = true then 1 else if cf t.f1 = 0 then (if fstBad ck txns t.f0 t.f1 (t.f1.getD 0 z89) = true then 1 else 0) else cf t.f1) else 3
def rowsG (cf : List S89 → Int) (ck : Int) (txns : List S84) (l : List S87) : Int := scanI (fun i => rowG cf ck txns i (l.getD i z87) (l.getD (i - 1) z87)) l.length 0
def isOpF (l : List S89) (a : Int) : Bool := decide (0 < l.length) && (((l.getD 0 z89).f1 == 0) && ((l.getD 0 z89).f0 == a))
def ownG (rows : List S87) (id : Int) (us : List S100) (i : Nat) (u : S100) : Int := if isOpF (chainF rows u.f0) id = true then (if ((!(us.take i).any (fun x => x.f0 == u.f0)) == u.f1) = true then 1 else 0) else 1
def ownT (rows : List S87) (t : S84) : Int := scanI (fun i => ownG rows t.f0 t.f4 i (t.f4.getD i z100)) t.f4.length 0
def ownsG (txns : List S84) (rows : List S87) : Int := scanI (fun i => ownT rows (txns.getD i z84)) txns.length 0
def enF (uf : List S100 → Int) (cf : List S89 → Int) (nx ck : Int) (txns : List S84) (rows : List S87) : Int :=
  if inB nx 1 999 = true then (if inB ck 0 1000000 = true then (if 20 < txns.length ∨ 32 < rows.length then 2 else if txnsG uf nx ck txns = 0 then (if rowsG cf ck txns rows = 0 then ownsG txns rows else rowsG cf ck txns rows) else txnsG uf nx ck txns) else 3) else 3
/-- What EngineFault tells; 'none' where an undo list's or a chain's fault is not known in k rounds. -/
def impl_EngineFault.uf (k : Nat) (l : List S100) : Int := (impl_undosFault.f k l).getD 0
def impl_EngineFault.cf (k : Nat) (l : List S89) : Int := (impl_ChainFault.f k l).getD 0
def impl_EngineFault.f (k : Nat) (a0_0 : Int) (a0_1 : Int) (l0_2 : List S84) (l0_3 : List S87) : Option Int :=
  if (l0_2.all fun t => (impl_undosFault.f k t.f4).isSome) = true then (if (l0_3.all fun r => (impl_ChainFault.f k r.f1).isSome) = true then some (enF (impl_EngineFault.uf k) (impl_EngineFault.cf k) a0_0 a0_1 l0_2 l0_3) else none) else none

/-! ### cmp_Or_int: function 93 -/
def cmp_Or_int.l0 : Nat → Int → List Int → Int → Int → Option (Int)
  | 0, _, _, _, _ => none
  | k + 1, x3, x6, x7, x8 => if x8 < x7 then (if 0 ≤ x8 then (if x8 < (x6.length : Int) then (if (rd x6 x8) = x3 then (cmp_Or_int.l0 k x3 x6 x7 (wrap64 (x8 + 1))) else (some (rd x6 x8))) else (none)) else (none)) else (some x3)
def cmp_Or_int.f (k : Nat) (l0 : List Int) : Option (Int) := cmp_Or_int.l0 k 0 l0 (l0.length : Int) 0

/-! ### cmp_isNaN_int64: function 106 -/
def cmp_isNaN_int64.f (a0 : Int) : Option (Bool) := some (a0 != a0)

/-! ### cmp_Compare_int64: function 94 -/
def cmp_Compare_int64.f (a0 : Int) (a1 : Int) : Option (Int) := (cmp_isNaN_int64.f a0).bind fun t297 => ((cmp_isNaN_int64.f a1).bind fun t298 => (if t297 = true then (if t298 = true then (some 0) else (some (-1))) else (if t298 = true then (some 1) else (if a0 < a1 then (some (-1)) else (if a0 > a1 then (some 1) else (some 0))))))

/-! ### impl_comparePairs: function 70 -/
def impl_comparePairs.f (k : Nat) (a0_0 : Int) (a0_1 : Int) (a1_0 : Int) (a1_1 : Int) : Option (Int) := (cmp_Compare_int64.f a0_0 a1_0).bind fun t301 => ((cmp_Compare_int64.f a0_1 a1_1).bind fun t302 => ((cmp_Or_int.f k (([t301, t302] : List Int))).bind fun t306 => (some t306)))

/-! ### slices_SortFunc_impl_Pair: function 72 -/
def cmpP (x y : S55) : Int := if x.f0 < y.f0 then -1 else if y.f0 < x.f0 then 1 else if x.f1 < y.f1 then -1 else if y.f1 < x.f1 then 1 else 0
def sortP (l : List S55) : List S55 := l.mergeSort fun x y => !decide (cmpP y x < 0)
def slices_SortFunc_impl_Pair.f (l0 : List S55) (fv : Value) : Option (List S55) := if l0.length < 4611686018427387904 then some (sortP l0) else none

/-! ### slices_Compact_impl_Pair: function 73 -/
def cmpA (p : S55) : List S55 → List S55
  | [] => []
  | x :: xs => if (x.f0 == p.f0 && (x.f1 == p.f1)) = true then cmpA p xs else x :: cmpA x xs
def compP : List S55 → List S55
  | [] => []
  | x :: xs => x :: cmpA x xs
def slices_Compact_impl_Pair.f (l0 : List S55) : Option (List S55) := some (compP l0)

/-! ### impl_Engine_pairs: function 31 -/
mutual
def impl_Engine_pairs.l0 : Nat → List (S55) → List (S87) → Int → Int → Option ((List (S55)))
  | 0, _, _, _, _ => none
  | k + 1, x3, x10, x11, x12 => if x12 < x11 then (if 0 ≤ x12 then (if x12 < (x10.length : Int) then (impl_Engine_pairs.l1 k x3 x10 x11 x12 ((rd_T87 x10 x12).f1) (((rd_T87 x10 x12).f1).length : Int) 0 ((rd_T87 x10 x12).f0) ((rd_T87 x10 x12).f1)) else (none)) else (none)) else ((slices_SortFunc_impl_Pair.f x3 (.func (.func 70) #[] #[])).bind fun t317 => ((slices_Compact_impl_Pair.f t317).bind fun t318 => (some t318)))
def impl_Engine_pairs.l1 : Nat → List (S55) → List (S87) → Int → Int → List (S89) → Int → Int → Int → List (S89) → Option ((List (S55)))
  | 0, _, _, _, _, _, _, _, _, _ => none
  | k + 1, x3, x10, x11, x12, x17, x18, x19, x323000, x323001 => if x19 < x18 then (if 0 ≤ x19 then (if x19 < (x17.length : Int) then (if ((rd_T89 x17 x19).f2 = true) then (impl_Engine_pairs.l1 k x3 x10 x11 x12 x17 x18 (wrap64 (x19 + 1)) x323000 x323001) else (if x3.length < 8796093022208 then (impl_Engine_pairs.l1 k (x3 ++ [(⟨(rd_T89 x17 x19).f3, x323000⟩ : S55)]) x10 x11 x12 x17 x18 (wrap64 (x19 + 1)) x323000 x323001) else (none))) else (none)) else (none)) else (impl_Engine_pairs.l0 k x3 x10 x11 (wrap64 (x12 + 1)))
end
def impl_Engine_pairs.f (k : Nat) (a0_0 : Int) (a0_1 : Int) (l0_2 : List (S84)) (l0_3 : List (S87)) : Option ((List (S55))) := impl_Engine_pairs.l0 k (([] : List (S55))) l0_3 (l0_3.length : Int) 0

/-! ### laws_eqUndo: function 117 -/
def laws_eqUndo.f (a0_0 : Int) (a0_1 : Bool) (a0_2 : Bool) (a0_3 : Int) (a1_0 : Int) (a1_1 : Bool) (a1_2 : Bool) (a1_3 : Int) : Option (Bool) := if a0_0 = a1_0 then (if (a0_1 != a1_1) = true then (some false) else (if (a0_2 != a1_2) = true then (some false) else (if a0_3 = a1_3 then (some true) else (some false)))) else (some false)

/-! ### laws_eqUndoS: function 97 -/
def laws_eqUndoS.l0 : Nat → List (S100) → List (S100) → Int → Option (Bool)
  | 0, _, _, _ => none
  | k + 1, x0, x1, x5 => if x5 < (x0.length : Int) then (if 0 ≤ x5 then (if x5 < (x1.length : Int) then ((laws_eqUndo.f ((rd_T100 x0 x5).f0) ((rd_T100 x0 x5).f1) ((rd_T100 x0 x5).f2) ((rd_T100 x0 x5).f3) ((rd_T100 x1 x5).f0) ((rd_T100 x1 x5).f1) ((rd_T100 x1 x5).f2) ((rd_T100 x1 x5).f3)).bind fun t332 => (if t332 = true then (laws_eqUndoS.l0 k x0 x1 (wrap64 (x5 + 1))) else (some false))) else (none)) else (none)) else (some true)
def laws_eqUndoS.f (k : Nat) (l0 : List (S100)) (l1 : List (S100)) : Option (Bool) := if (l0.length : Int) = (l1.length : Int) then (laws_eqUndoS.l0 k l0 l1 0) else (some false)

/-! ### laws_eqTxn: function 75 -/
def laws_eqTxn.f (k : Nat) (a0_0 : Int) (a0_1 : Int) (a0_2 : Int) (a0_3 : Int) (l0_4 : List (S100)) (a1_0 : Int) (a1_1 : Int) (a1_2 : Int) (a1_3 : Int) (l1_4 : List (S100)) : Option (Bool) := if a0_0 = a1_0 then (if a0_1 = a1_1 then (if a0_2 = a1_2 then (if a0_3 = a1_3 then ((laws_eqUndoS.f k l0_4 l1_4).bind fun t335 => (if t335 = true then (some true) else (some false))) else (some false)) else (some false)) else (some false)) else (some false)

/-! ### laws_eqTxnS: function 34 -/
def laws_eqTxnS.l0 : Nat → List (S84) → List (S84) → Int → Option (Bool)
  | 0, _, _, _ => none
  | k + 1, x0, x1, x5 => if x5 < (x0.length : Int) then (if 0 ≤ x5 then (if x5 < (x1.length : Int) then ((laws_eqTxn.f k ((rd_T84 x0 x5).f0) ((rd_T84 x0 x5).f1) ((rd_T84 x0 x5).f2) ((rd_T84 x0 x5).f3) ((rd_T84 x0 x5).f4) ((rd_T84 x1 x5).f0) ((rd_T84 x1 x5).f1) ((rd_T84 x1 x5).f2) ((rd_T84 x1 x5).f3) ((rd_T84 x1 x5).f4)).bind fun t338 => (if t338 = true then (laws_eqTxnS.l0 k x0 x1 (wrap64 (x5 + 1))) else (some false))) else (none)) else (none)) else (some true)
def laws_eqTxnS.f (k : Nat) (l0 : List (S84)) (l1 : List (S84)) : Option (Bool) := if (l0.length : Int) = (l1.length : Int) then (laws_eqTxnS.l0 k l0 l1 0) else (some false)

/-! ### laws_eqVersion: function 118 -/
def laws_eqVersion.f (a0_0 : Int) (a0_1 : Int) (a0_2 : Bool) (a0_3 : Int) (a1_0 : Int) (a1_1 : Int) (a1_2 : Bool) (a1_3 : Int) : Option (Bool) := if a0_0 = a1_0 then (if a0_1 = a1_1 then (if (a0_2 != a1_2) = true then (some false) else (if a0_3 = a1_3 then (some true) else (some false))) else (some false)) else (some false)

/-! ### laws_eqVersionS: function 98 -/
def laws_eqVersionS.l0 : Nat → List (S89) → List (S89) → Int → Option (Bool)
  | 0, _, _, _ => none
  | k + 1, x0, x1, x5 => if x5 < (x0.length : Int) then (if 0 ≤ x5 then (if x5 < (x1.length : Int) then ((laws_eqVersion.f ((rd_T89 x0 x5).f0) ((rd_T89 x0 x5).f1) ((rd_T89 x0 x5).f2) ((rd_T89 x0 x5).f3) ((rd_T89 x1 x5).f0) ((rd_T89 x1 x5).f1) ((rd_T89 x1 x5).f2) ((rd_T89 x1 x5).f3)).bind fun t343 => (if t343 = true then (laws_eqVersionS.l0 k x0 x1 (wrap64 (x5 + 1))) else (some false))) else (none)) else (none)) else (some true)
def laws_eqVersionS.f (k : Nat) (l0 : List (S89)) (l1 : List (S89)) : Option (Bool) := if (l0.length : Int) = (l1.length : Int) then (laws_eqVersionS.l0 k l0 l1 0) else (some false)

/-! ### laws_eqRow: function 76 -/
def laws_eqRow.f (k : Nat) (a0_0 : Int) (l0_1 : List (S89)) (a1_0 : Int) (l1_1 : List (S89)) : Option (Bool) := if a0_0 = a1_0 then ((laws_eqVersionS.f k l0_1 l1_1).bind fun t346 => (if t346 = true then (some true) else (some false))) else (some false)

/-! ### laws_eqRowS: function 35 -/
def laws_eqRowS.l0 : Nat → List (S87) → List (S87) → Int → Option (Bool)
  | 0, _, _, _ => none
  | k + 1, x0, x1, x5 => if x5 < (x0.length : Int) then (if 0 ≤ x5 then (if x5 < (x1.length : Int) then ((laws_eqRow.f k ((rd_T87 x0 x5).f0) ((rd_T87 x0 x5).f1) ((rd_T87 x1 x5).f0) ((rd_T87 x1 x5).f1)).bind fun t349 => (if t349 = true then (laws_eqRowS.l0 k x0 x1 (wrap64 (x5 + 1))) else (some false))) else (none)) else (none)) else (some true)
def laws_eqRowS.f (k : Nat) (l0 : List (S87)) (l1 : List (S87)) : Option (Bool) := if (l0.length : Int) = (l1.length : Int) then (laws_eqRowS.l0 k l0 l1 0) else (some false)

/-! ### laws_eqEngine: function 11 -/
def laws_eqEngine.f (k : Nat) (a0_0 : Int) (a0_1 : Int) (l0_2 : List (S84)) (l0_3 : List (S87)) (a1_0 : Int) (a1_1 : Int) (l1_2 : List (S84)) (l1_3 : List (S87)) : Option (Bool) := if a0_0 = a1_0 then (if a0_1 = a1_1 then ((laws_eqTxnS.f k l0_2 l1_2).bind fun t352 => (if t352 = true then ((laws_eqRowS.f k l0_3 l1_3).bind fun t353 => (if t353 = true then (some true) else (some false))) else (some false))) else (some false)) else (some false)

/-! ### laws_eqPair: function 36 -/
def laws_eqPair.f (a0_0 : Int) (a0_1 : Int) (a1_0 : Int) (a1_1 : Int) : Option (Bool) := if a0_0 = a1_0 then (if a0_1 = a1_1 then (some true) else (some false)) else (some false)

/-! ### laws_eqPairS: function 12 -/
def laws_eqPairS.l0 : Nat → List (S55) → List (S55) → Int → Option (Bool)
  | 0, _, _, _ => none
  | k + 1, x0, x1, x5 => if x5 < (x0.length : Int) then (if 0 ≤ x5 then (if x5 < (x1.length : Int) then ((laws_eqPair.f ((rd_T55 x0 x5).f0) ((rd_T55 x0 x5).f1) ((rd_T55 x1 x5).f0) ((rd_T55 x1 x5).f1)).bind fun t358 => (if t358 = true then (laws_eqPairS.l0 k x0 x1 (wrap64 (x5 + 1))) else (some false))) else (none)) else (none)) else (some true)
def laws_eqPairS.f (k : Nat) (l0 : List (S55)) (l1 : List (S55)) : Option (Bool) := if (l0.length : Int) = (l1.length : Int) then (laws_eqPairS.l0 k l0 l1 0) else (some false)

end Go.Proofs.YtocdahbinombkaaGreat.P
