-- Printed by this session's own program over the kit's print (wip/tools/mp.py). Not trusted: Lean checks it.
import Derived.Test.YtldlnafakfigeaaDoorP0
import Derived.Test.YtldlnafakfigeaaDoorLb
import Derived.Lib.Join
import Derived.Lib.ItoaNum
namespace Go.Proofs.YtldlnafakfigeaaDoor.P
open Go.RowKit Go.Proofs.YtldlnafakfigeaaDoorW.PrintWords Go.Proofs.YtldlnafakfigeaaDoorW.PrintLast Go.Proofs.YtldlnafakfigeaaDoorW.PrintMore
attribute [local go_sem] max2_int min2_int max_two min_two max_three min_three max_four min_four   -- for this text's walks alone
set_option linter.unusedVariables false
set_option linter.unusedSimpArgs false

/-! ### laws_szUndoS: function 49 -/
def laws_szUndoS.f (l0 : List (S109)) (a1 : Int) : Option (Int) := if (wrap64 (a1 - (l0.length : Int))) < 0 then (some (-1)) else (some (wrap64 (a1 - (l0.length : Int))))

/-! ### laws_szTxn: function 21 -/
def laws_szTxn.f (a0_0 : Int) (a0_1 : Int) (a0_2 : Int) (a0_3 : Int) (l0_4 : List (S109)) (a1 : Int) : Option (Int) := (laws_szUndoS.f l0_4 a1).bind fun t102 => (if t102 < 0 then (some (-1)) else (some t102))

/-! ### laws_szTxnS: function 10 -/
def laws_szTxnS.l0 : Nat → List (S61) → Int → Int → Option (Int)
  | 0, _, _, _ => none
  | k + 1, x0, x1, x5 => if x5 < (x0.length : Int) then (if 0 ≤ x5 then ((laws_szTxn.f ((rd_T61 x0 x5).f0) ((rd_T61 x0 x5).f1) ((rd_T61 x0 x5).f2) ((rd_T61 x0 x5).f3) ((rd_T61 x0 x5).f4) x1).bind fun t104 => (if t104 < 0 then (some (-1)) else (laws_szTxnS.l0 k x0 t104 (wrap64 (x5 + 1))))) else (none)) else (some x1)
def laws_szTxnS.f (k : Nat) (l0 : List (S61)) (a1 : Int) : Option (Int) := if (wrap64 (a1 - (l0.length : Int))) < 0 then (some (-1)) else (laws_szTxnS.l0 k l0 (wrap64 (a1 - (l0.length : Int))) 0)

/-! ### laws_szVersionS: function 50 -/
def laws_szVersionS.f (l0 : List (S111)) (a1 : Int) : Option (Int) := if (wrap64 (a1 - (l0.length : Int))) < 0 then (some (-1)) else (some (wrap64 (a1 - (l0.length : Int))))

/-! ### laws_szRow: function 22 -/
def laws_szRow.f (a0_0 : Int) (l0_1 : List (S111)) (a1 : Int) : Option (Int) := (laws_szVersionS.f l0_1 a1).bind fun t106 => (if t106 < 0 then (some (-1)) else (some t106))

/-! ### laws_szRowS: function 11 -/
def laws_szRowS.l0 : Nat → List (S65) → Int → Int → Option (Int)
  | 0, _, _, _ => none
  | k + 1, x0, x1, x5 => if x5 < (x0.length : Int) then (if 0 ≤ x5 then ((laws_szRow.f ((rd_T65 x0 x5).f0) ((rd_T65 x0 x5).f1) x1).bind fun t108 => (if t108 < 0 then (some (-1)) else (laws_szRowS.l0 k x0 t108 (wrap64 (x5 + 1))))) else (none)) else (some x1)
def laws_szRowS.f (k : Nat) (l0 : List (S65)) (a1 : Int) : Option (Int) := if (wrap64 (a1 - (l0.length : Int))) < 0 then (some (-1)) else (laws_szRowS.l0 k l0 (wrap64 (a1 - (l0.length : Int))) 0)

/-! ### laws_szEngine: function 4 -/
def laws_szEngine.f (k : Nat) (a0_0 : Int) (a0_1 : Int) (l0_2 : List (S61)) (l0_3 : List (S65)) (a1 : Int) : Option (Int) := (laws_szTxnS.f k l0_2 a1).bind fun t110 => (if t110 < 0 then (some (-1)) else ((laws_szRowS.f k l0_3 t110).bind fun t111 => (if t111 < 0 then (some (-1)) else (some t111))))

/-! ### spec_l1In: function 24 -/
def spec_l1In.f (a0 : Int) (a1 : Int) (a2 : Int) : Option (Bool) := if a0 ≥ a1 then (some (decide (a0 ≤ a2))) else (some false)

/-! ### spec_l5Txn: function 23 -/
def spec_l5Txn.f (a0 : Int) : Option (Bool) := (spec_l1In.f a0 1 999).bind fun t112 => (some t112)

/-! ### spec_l1Key: function 52 -/
def spec_l1Key.f (a0 : Int) : Option (Bool) := (spec_l1In.f a0 0 31).bind fun t113 => (some t113)

/-! ### spec_l1Value: function 69 -/
def spec_l1Value.f (a0 : Int) : Option (Bool) := (spec_l1In.f a0 0 9999).bind fun t114 => (some t114)

/-! ### spec_l5At: function 70 -/
def spec_l5At.f (a0 : Int) : Option (Bool) := (spec_l1In.f a0 1 1000000).bind fun t115 => (some t115)

/-! ### spec_ChainFault: function 53 -/
mutual
def spec_ChainFault.l0 : Nat → List (S51) → Int → Option (Int)
  | 0, _, _ => none
  | k + 1, x0, x3 => if x3 < (x0.length : Int) then (if 0 ≤ x3 then ((spec_l5Txn.f ((rd_T51 x0 x3).f0)).bind fun t118 => (if t118 = true then (if ((rd_T51 x0 x3).f1) = 0 then ((spec_l1Value.f ((rd_T51 x0 x3).f3)).bind fun t119 => (spec_ChainFault.j1 k x0 x3 (!t119) ((rd_T51 x0 x3).f0) ((rd_T51 x0 x3).f1) ((rd_T51 x0 x3).f2) ((rd_T51 x0 x3).f3))) else ((spec_l5At.f ((rd_T51 x0 x3).f1)).bind fun t120 => (if t120 = true then ((spec_l1Value.f ((rd_T51 x0 x3).f3)).bind fun t121 => (spec_ChainFault.j1 k x0 x3 (!t121) ((rd_T51 x0 x3).f0) ((rd_T51 x0 x3).f1) ((rd_T51 x0 x3).f2) ((rd_T51 x0 x3).f3))) else (spec_ChainFault.j1 k x0 x3 true ((rd_T51 x0 x3).f0) ((rd_T51 x0 x3).f1) ((rd_T51 x0 x3).f2) ((rd_T51 x0 x3).f3))))) else (spec_ChainFault.j1 k x0 x3 true ((rd_T51 x0 x3).f0) ((rd_T51 x0 x3).f1) ((rd_T51 x0 x3).f2) ((rd_T51 x0 x3).f3)))) else (none)) else (some 0)
def spec_ChainFault.j1 : Nat → List (S51) → Int → Bool → Int → Int → Bool → Int → Option (Int)
  | 0, _, _, _, _, _, _, _ => none
  | k + 1, x0, x3, x38, x118000, x118001, x118002, x118003 => if x38 = true then (some 3) else (if x118002 = true then (if x118003 = 0 then (if x118001 = 0 then (if x3 > 0 then (some 1) else (spec_ChainFault.l0 k x0 (wrap64 (x3 + 1)))) else (if x3 > 0 then (if 0 ≤ (wrap64 (x3 - 1)) then (if (wrap64 (x3 - 1)) < (x0.length : Int) then (if ((rd_T51 x0 (wrap64 (x3 - 1))).f1) = 0 then (spec_ChainFault.l0 k x0 (wrap64 (x3 + 1))) else (if x118001 ≥ ((rd_T51 x0 (wrap64 (x3 - 1))).f1) then (some 1) else (spec_ChainFault.l0 k x0 (wrap64 (x3 + 1))))) else (none)) else (none)) else (spec_ChainFault.l0 k x0 (wrap64 (x3 + 1))))) else (some 1)) else (if x118001 = 0 then (if x3 > 0 then (some 1) else (spec_ChainFault.l0 k x0 (wrap64 (x3 + 1)))) else (if x3 > 0 then (if 0 ≤ (wrap64 (x3 - 1)) then (if (wrap64 (x3 - 1)) < (x0.length : Int) then (if ((rd_T51 x0 (wrap64 (x3 - 1))).f1) = 0 then (spec_ChainFault.l0 k x0 (wrap64 (x3 + 1))) else (if x118001 ≥ ((rd_T51 x0 (wrap64 (x3 - 1))).f1) then (some 1) else (spec_ChainFault.l0 k x0 (wrap64 (x3 + 1))))) else (none)) else (none)) else (spec_ChainFault.l0 k x0 (wrap64 (x3 + 1))))))
end
def spec_ChainFault.f (k : Nat) (l0 : List (S51)) : Option (Int) := if (l0.length : Int) > 12 then (some 2) else (spec_ChainFault.l0 k l0 0)

/-! ### spec_l5Writer: function 56 -/
def spec_l5Writer.f (l0 : List (S51)) : Option (Int) := if (l0.length : Int) > 0 then (if 0 < (l0.length : Int) then (if ((rd_T51 l0 0).f1) = 0 then (some ((rd_T51 l0 0).f0)) else (some 0)) else (none)) else (some 0)

/-! ### spec_l6Fault: function 12 -/
-- NEEDS Derived.Test.YtldlnafakfigeaaDoorLb
def inB (a lo hi : Int) : Bool := decide (lo ≤ a) && decide (a ≤ hi)
def scanI (f : Nat → Int) : Nat → Nat → Int
  | 0, _ => 0
  | m + 1, i => if f i = 0 then scanI f m (i + 1) else f i
def undoBad (u : S81) : Bool := (!u.f1 && (u.f2 || u.f3 != 0)) || (u.f2 && u.f3 != 0)
def undoF (u : S81) : Int := if inB u.f0 0 31 = true then (if inB u.f3 0 9999 = true then (if undoBad u = true then 1 else 0) else 3) else 3
def undosF (l : List S81) : Int := if l.length > 60 then 2 else scanI (fun i => undoF (l.getD i z81)) l.length 0
def txnBad (l : List S45) (i : Nat) (t q : S45) : Bool := (decide (0 < i) && decide (t.f0 ≤ q.f0)) || ((!(t.f3 == 0) && (!(t.f2 == 2) || decide (t.f3 ≤ t.f1))) || (decide (0 < t.f4.length) && !(t.f2 == 1)))
def txnF (nx ck : Int) (l : List S45) (i : Nat) (t q : S45) : Int := if (inB t.f0 1 (nx - 1) && (inB t.f1 0 ck && (inB t.f2 1 3 && inB t.f3 0 ck))) = true then (if txnBad l i t q = true then 1 else undosF t.f4) else 3
def txnsF (nx ck : Int) (l : List S45) : Int := scanI (fun i => txnF nx ck l i (l.getD i z45) (l.getD (i - 1) z45)) l.length 0
def writerF (l : List S51) : Int := if (decide (0 < l.length) && ((l.getD 0 z51).f1 == 0)) = true then (l.getD 0 z51).f0 else 0
def openF (txns : List S45) (key : Int) (chain : List S51) : Bool :=
  if (writerF chain == 0) = true then true else
    decide (0 ≤ Lb.idx (fun u : S45 => u.f0 == writerF chain) txns) && (((txns.getD (Lb.idx (fun u : S45 => u.f0 == writerF chain) txns).toNat z45).f2 == 1) && ((txns.getD (Lb.idx (fun u : S45 => u.f0 == writerF chain) txns).toNat z45).f4.any fun u => u.f0 == key))
def rowBad (i : Nat) (t q : S49) : Bool := (decide (0 < i) && decide (t.f0 ≤ q.f0)) || ((t.f1.length : Int) == 0)
def rowAtV (ck : Int) (txns : List S45) (t : S49) (v0 v1 : S51) : Bool := decide (ck < v0.f1) || ((decide ((1 : Int) < (t.f1.length : Int)) && decide (ck < v1.f1)) || !openF txns t.f0 t.f1)
def rowAt (ck : Int) (txns : List S45) (t : S49) : Bool := rowAtV ck txns t (t.f1.getD 0 z51) (t.f1.getD 1 z51)
def rowF (cf : List S51 → Int) (ck : Int) (txns : List S45) (i : Nat) (t q : S49) : Int := if inB t.f0 0 31 = true then (if rowBad i t q = true then 1 else if cf t.f1 = 0 then (if rowAt ck txns t = true then 1 else 0) else cf t.f1) else 3
def rowsF (cf : List S51 → Int) (ck : Int) (txns : List S45) (l : List S49) : Int := scanI (fun i => rowF cf ck txns i (l.getD i z49) (l.getD (i - 1) z49)) l.length 0
def ownAt (rows : List S49) (key : Int) : Int := Lb.idx (fun u : S49 => u.f0 == key) rows
def ownBad (rows : List S49) (id : Int) (key : Int) : Bool := decide (ownAt rows key < 0) || !(writerF (rows.getD (ownAt rows key).toNat z49).f1 == id)
def ownF (rows : List S49) (id : Int) (us : List S81) (i : Nat) (u : S81) : Int := if ownBad rows id u.f0 = true then 1 else if u.f1 = (us.take i).any (fun x => x.f0 == u.f0) then 0 else 1
def ownsI (rows : List S49) (id : Int) (us : List S81) : Int := scanI (fun i => ownF rows id us i (us.getD i z81)) us.length 0
def ownsF (rows : List S49) (id : Int) (us : List S81) : Bool := ownsI rows id us == 0
def ownIf (rows : List S49) (t : S45) : Int := if ownsF rows t.f0 t.f4 = true then 0 else 1
def ownAll (txns : List S45) (rows : List S49) : Int := scanI (fun i => ownIf rows (txns.getD i z45)) txns.length 0
def faultF (cf : List S51 → Int) (nx ck : Int) (txns : List S45) (rows : List S49) : Int :=
  if inB nx 1 999 = true then (if inB ck 0 1000000 = true then (if 20 < txns.length ∨ 32 < rows.length then 2 else if txnsF nx ck txns = 0 then (if rowsF cf ck txns rows = 0 then ownAll txns rows else rowsF cf ck txns rows) else txnsF nx ck txns) else 3) else 3
/-- What l6Fault tells; 'none' where a chain's fault is not known in k rounds. -/
def spec_l6Fault.cf (k : Nat) (l : List S51) : Int := (spec_ChainFault.f k l).getD 0
def spec_l6Fault.f (k : Nat) (s0_0 s0_1 : Int) (s0_2 : List S45) (s0_3 : List S49) : Option Int :=
  if (s0_3.all fun r => (spec_ChainFault.f k r.f1).isSome) = true then some (faultF (spec_l6Fault.cf k) s0_0 s0_1 s0_2 s0_3) else none

/-! ### spec_l7Digits: function 14 -/
def spec_l7Digits.f : Nat → Int → Option (ByteArray)
  | 0, _ => none
  | k + 1, a0 => if a0 < 10 then (some (strOfNums (([(wrap64 (48 + a0)) % 256] : List Int)))) else ((spec_l7Digits.f k (wrap64 (Int.tdiv a0 10))).bind fun t131 => ((some (([(wrap64 (48 + (Int.tmod a0 10))) % 256] : List Int) : List Int)).bind fun y132 => (if t131.size + (strOfNums y132).size ≤ 9223372036854775807 then (some (t131 ++ (strOfNums y132))) else (none))))

/-! ### spec_l7Line: function 13 -/
def spec_l7Line.l0 : Nat → ByteArray → List Int → Int → Option (ByteArray)
  | 0, _, _, _ => none
  | k + 1, x0, x1, x5 => if x5 < (x1.length : Int) then (if x0.size + 1 ≤ 9223372036854775807 then (if 0 ≤ x5 then ((spec_l7Digits.f k (rd x1 x5)).bind fun t136 => (if (x0 ++ (⟨#[32]⟩ : ByteArray)).size + t136.size ≤ 9223372036854775807 then (spec_l7Line.l0 k ((x0 ++ (⟨#[32]⟩ : ByteArray)) ++ t136) x1 (wrap64 (x5 + 1))) else (none))) else (none)) else (none)) else (if x0.size + 1 ≤ 9223372036854775807 then (some (x0 ++ (⟨#[10]⟩ : ByteArray))) else (none))
def spec_l7Line.f (k : Nat) (a0 : ByteArray) (l1 : List Int) : Option (ByteArray) := spec_l7Line.l0 k a0 l1 0

/-! ### spec_TextOf: function 5 -/
mutual
def spec_TextOf.l0 : Nat → ByteArray → Int → Int → Int → List (S45) → List (S49) → Option (Int × ByteArray)
  | 0, _, _, _, _, _, _ => none
  | k + 1, x4, x5, x138000, x138001, x138002, x138003 => if x5 < (x138002.length : Int) then (if 0 ≤ x5 then ((spec_l7Line.f k (⟨#[116, 120, 110]⟩ : ByteArray) (([(rd_T45 x138002 x5).f0, (rd_T45 x138002 x5).f1, (rd_T45 x138002 x5).f2, (rd_T45 x138002 x5).f3, (((rd_T45 x138002 x5).f4).length : Int)] : List Int))).bind fun t149 => (if x4.size + t149.size ≤ 9223372036854775807 then (spec_TextOf.l0 k (x4 ++ t149) (wrap64 (x5 + 1)) x138000 x138001 x138002 x138003) else (none))) else (none)) else (spec_TextOf.l1 k x4 0 x138000 x138001 x138002 x138003)
def spec_TextOf.l1 : Nat → ByteArray → Int → Int → Int → List (S45) → List (S49) → Option (Int × ByteArray)
  | 0, _, _, _, _, _, _ => none
  | k + 1, x4, x7, x138000, x138001, x138002, x138003 => if x7 < (x138003.length : Int) then (if x4.size + 4 ≤ 9223372036854775807 then (if 0 ≤ x7 then ((spec_l7Digits.f k ((rd_T49 x138003 x7).f0)).bind fun t151 => (if (x4 ++ (⟨#[114, 111, 119, 32]⟩ : ByteArray)).size + t151.size ≤ 9223372036854775807 then (spec_TextOf.l2 k ((x4 ++ (⟨#[114, 111, 119, 32]⟩ : ByteArray)) ++ t151) x7 0 x138000 x138001 x138002 x138003) else (none))) else (none)) else (none)) else (some (0, x4))
def spec_TextOf.l2 : Nat → ByteArray → Int → Int → Int → Int → List (S45) → List (S49) → Option (Int × ByteArray)
  | 0, _, _, _, _, _, _, _ => none
  | k + 1, x4, x7, x8, x138000, x138001, x138002, x138003 => if 0 ≤ x7 then (if x7 < (x138003.length : Int) then (if x8 < (((rd_T49 x138003 x7).f1).length : Int) then (if 0 ≤ x8 then (if x4.size + 1 ≤ 9223372036854775807 then ((spec_l7Digits.f k ((rd_T51 ((rd_T49 x138003 x7).f1) x8).f0)).bind fun t156 => (if (x4 ++ (⟨#[32]⟩ : ByteArray)).size + t156.size ≤ 9223372036854775807 then (if ((x4 ++ (⟨#[32]⟩ : ByteArray)) ++ t156).size + 1 ≤ 9223372036854775807 then ((spec_l7Digits.f k ((rd_T51 ((rd_T49 x138003 x7).f1) x8).f1)).bind fun t157 => (if (((x4 ++ (⟨#[32]⟩ : ByteArray)) ++ t156) ++ (⟨#[58]⟩ : ByteArray)).size + t157.size ≤ 9223372036854775807 then (if (rd_T51 ((rd_T49 x138003 x7).f1) x8).f2 = true then (if ((((x4 ++ (⟨#[32]⟩ : ByteArray)) ++ t156) ++ (⟨#[58]⟩ : ByteArray)) ++ t157).size + 1 ≤ 9223372036854775807 then (spec_TextOf.l2 k (((((x4 ++ (⟨#[32]⟩ : ByteArray)) ++ t156) ++ (⟨#[58]⟩ : ByteArray)) ++ t157) ++ (⟨#[45]⟩ : ByteArray)) x7 (wrap64 (x8 + 1)) x138000 x138001 x138002 x138003) else (none)) else (if ((((x4 ++ (⟨#[32]⟩ : ByteArray)) ++ t156) ++ (⟨#[58]⟩ : ByteArray)) ++ t157).size + 1 ≤ 9223372036854775807 then ((spec_l7Digits.f k ((rd_T51 ((rd_T49 x138003 x7).f1) x8).f3)).bind fun t158 => (if (((((x4 ++ (⟨#[32]⟩ : ByteArray)) ++ t156) ++ (⟨#[58]⟩ : ByteArray)) ++ t157) ++ (⟨#[61]⟩ : ByteArray)).size + t158.size ≤ 9223372036854775807 then (spec_TextOf.l2 k ((((((x4 ++ (⟨#[32]⟩ : ByteArray)) ++ t156) ++ (⟨#[58]⟩ : ByteArray)) ++ t157) ++ (⟨#[61]⟩ : ByteArray)) ++ t158) x7 (wrap64 (x8 + 1)) x138000 x138001 x138002 x138003) else (none))) else (none))) else (none))) else (none)) else (none))) else (none)) else (none)) else (if x4.size + 1 ≤ 9223372036854775807 then (spec_TextOf.l1 k (x4 ++ (⟨#[10]⟩ : ByteArray)) (wrap64 (x7 + 1)) x138000 x138001 x138002 x138003) else (none))) else (none)) else (none)
end
def spec_TextOf.f (k : Nat) (a0_0 : Int) (a0_1 : Int) (l0_2 : List (S45)) (l0_3 : List (S49)) : Option (Int × ByteArray) := (spec_l6Fault.f k a0_0 a0_1 l0_2 l0_3).bind fun t139 => (if t139 = 0 then ((spec_l7Line.f k (⟨#[99, 108, 111, 99, 107]⟩ : ByteArray) (([a0_1, a0_0] : List Int))).bind fun t143 => (spec_TextOf.l0 k t143 0 a0_0 a0_1 l0_2 l0_3)) else (some (t139, (⟨#[]⟩ : ByteArray))))

/-! ### laws_toUndo: function 73 -/
def laws_toUndo.f (a0_0 : Int) (a0_1 : Bool) (a0_2 : Bool) (a0_3 : Int) : Option (Int × Bool × Bool × Int) := some (a0_0, a0_1, a0_2, a0_3)

/-! ### laws_toUndoS: function 57 -/
def laws_toUndoS.l0 : Nat → List (S109) → List (S81) → Int → Option ((List (S81)))
  | 0, _, _, _ => none
  | k + 1, x0, x3, x4 => if x4 < (x0.length : Int) then (if 0 ≤ x4 then ((laws_toUndo.f ((rd_T109 x0 x4).f0) ((rd_T109 x0 x4).f1) ((rd_T109 x0 x4).f2) ((rd_T109 x0 x4).f3)).bind fun bt166 => (if x4 < (x3.length : Int) then (laws_toUndoS.l0 k x0 (x3.set (x4 : Int).toNat (⟨bt166.1, bt166.2.1, bt166.2.2.1, bt166.2.2.2⟩ : S81)) (wrap64 (x4 + 1))) else (none))) else (none)) else (some x3)
def laws_toUndoS.f (k : Nat) (l0 : List (S109)) : Option ((List (S81))) := if 0 ≤ (l0.length : Int) then (if ((l0.length : Int) : Int).toNat ≤ 11728124029610 then (laws_toUndoS.l0 k l0 (List.replicate ((l0.length : Int) : Int).toNat z81) 0) else (none)) else (none)

/-! ### laws_toTxn: function 28 -/
def laws_toTxn.f (k : Nat) (a0_0 : Int) (a0_1 : Int) (a0_2 : Int) (a0_3 : Int) (l0_4 : List (S109)) : Option (Int × Int × Int × Int × (List (S81))) := (laws_toUndoS.f k l0_4).bind fun t174 => (some (a0_0, a0_1, a0_2, a0_3, t174))

/-! ### laws_toTxnS: function 15 -/
def laws_toTxnS.l0 : Nat → List (S61) → List (S45) → Int → Option ((List (S45)))
  | 0, _, _, _ => none
  | k + 1, x0, x3, x4 => if x4 < (x0.length : Int) then (if 0 ≤ x4 then ((laws_toTxn.f k ((rd_T61 x0 x4).f0) ((rd_T61 x0 x4).f1) ((rd_T61 x0 x4).f2) ((rd_T61 x0 x4).f3) ((rd_T61 x0 x4).f4)).bind fun bt181 => (if x4 < (x3.length : Int) then (laws_toTxnS.l0 k x0 (x3.set (x4 : Int).toNat (⟨bt181.1, bt181.2.1, bt181.2.2.1, bt181.2.2.2.1, bt181.2.2.2.2⟩ : S45)) (wrap64 (x4 + 1))) else (none))) else (none)) else (some x3)
def laws_toTxnS.f (k : Nat) (l0 : List (S61)) : Option ((List (S45))) := if 0 ≤ (l0.length : Int) then (if ((l0.length : Int) : Int).toNat ≤ 5026338869833 then (laws_toTxnS.l0 k l0 (List.replicate ((l0.length : Int) : Int).toNat z45) 0) else (none)) else (none)

/-! ### laws_toVersion: function 74 -/
def laws_toVersion.f (a0_0 : Int) (a0_1 : Int) (a0_2 : Bool) (a0_3 : Int) : Option (Int × Int × Bool × Int) := some (a0_0, a0_1, a0_2, a0_3)

/-! ### laws_toVersionS: function 58 -/
def laws_toVersionS.l0 : Nat → List (S111) → List (S51) → Int → Option ((List (S51)))
  | 0, _, _, _ => none
  | k + 1, x0, x3, x4 => if x4 < (x0.length : Int) then (if 0 ≤ x4 then ((laws_toVersion.f ((rd_T111 x0 x4).f0) ((rd_T111 x0 x4).f1) ((rd_T111 x0 x4).f2) ((rd_T111 x0 x4).f3)).bind fun bt196 => (if x4 < (x3.length : Int) then (laws_toVersionS.l0 k x0 (x3.set (x4 : Int).toNat (⟨bt196.1, bt196.2.1, bt196.2.2.1, bt196.2.2.2⟩ : S51)) (wrap64 (x4 + 1))) else (none))) else (none)) else (some x3)
def laws_toVersionS.f (k : Nat) (l0 : List (S111)) : Option ((List (S51))) := if 0 ≤ (l0.length : Int) then (if ((l0.length : Int) : Int).toNat ≤ 8796093022208 then (laws_toVersionS.l0 k l0 (List.replicate ((l0.length : Int) : Int).toNat z51) 0) else (none)) else (none)

/-! ### laws_toRow: function 29 -/
def laws_toRow.f (k : Nat) (a0_0 : Int) (l0_1 : List (S111)) : Option (Int × (List (S51))) := (laws_toVersionS.f k l0_1).bind fun t204 => (some (a0_0, t204))

/-! ### laws_toRowS: function 16 -/
def laws_toRowS.l0 : Nat → List (S65) → List (S49) → Int → Option ((List (S49)))
  | 0, _, _, _ => none
  | k + 1, x0, x3, x4 => if x4 < (x0.length : Int) then (if 0 ≤ x4 then ((laws_toRow.f k ((rd_T65 x0 x4).f0) ((rd_T65 x0 x4).f1)).bind fun bt211 => (if x4 < (x3.length : Int) then (laws_toRowS.l0 k x0 (x3.set (x4 : Int).toNat (⟨bt211.1, bt211.2⟩ : S49)) (wrap64 (x4 + 1))) else (none))) else (none)) else (some x3)
def laws_toRowS.f (k : Nat) (l0 : List (S65)) : Option ((List (S49))) := if 0 ≤ (l0.length : Int) then (if ((l0.length : Int) : Int).toNat ≤ 8796093022208 then (laws_toRowS.l0 k l0 (List.replicate ((l0.length : Int) : Int).toNat z49) 0) else (none)) else (none)

/-! ### laws_toEngine: function 6 -/
def laws_toEngine.f (k : Nat) (a0_0 : Int) (a0_1 : Int) (l0_2 : List (S61)) (l0_3 : List (S65)) : Option (Int × Int × (List (S45)) × (List (S49))) := (laws_toTxnS.f k l0_2).bind fun t219 => ((laws_toRowS.f k l0_3).bind fun t222 => (some (a0_0, a0_1, t219, t222)))

/-! ### impl_within: function 32 -/
def impl_within.f (a0 : Int) (a1 : Int) (a2 : Int) : Option (Bool) := if a1 ≤ a0 then (some (decide (a0 ≤ a2))) else (some false)

/-! ### impl_isTxn: function 30 -/
def impl_isTxn.f (a0 : Int) : Option (Bool) := (impl_within.f a0 1 999).bind fun t225 => (some t225)

/-! ### impl_isLsn: function 31 -/
def impl_isLsn.f (a0 : Int) : Option (Bool) := (impl_within.f a0 0 1000000).bind fun t226 => (some t226)

/-! ### impl_isKey: function 34 -/
def impl_isKey.f (a0 : Int) : Option (Bool) := (impl_within.f a0 0 31).bind fun t227 => (some t227)

/-! ### impl_isValue: function 59 -/
def impl_isValue.f (a0 : Int) : Option (Bool) := (impl_within.f a0 0 9999).bind fun t228 => (some t228)

/-! ### impl_undosFault: function 33 -/
mutual
def impl_undosFault.l0 : Nat → List (S81) → Int → Int → Option (Int)
  | 0, _, _, _ => none
  | k + 1, x8, x9, x10 => if x10 < x9 then (if 0 ≤ x10 then (if x10 < (x8.length : Int) then ((impl_isKey.f ((rd_T81 x8 x10).f0)).bind fun t231 => (if t231 = true then ((impl_isValue.f ((rd_T81 x8 x10).f3)).bind fun t232 => (impl_undosFault.j1 k x8 x9 x10 (!t232) ((rd_T81 x8 x10).f0) ((rd_T81 x8 x10).f1) ((rd_T81 x8 x10).f2) ((rd_T81 x8 x10).f3))) else (impl_undosFault.j1 k x8 x9 x10 true ((rd_T81 x8 x10).f0) ((rd_T81 x8 x10).f1) ((rd_T81 x8 x10).f2) ((rd_T81 x8 x10).f3)))) else (none)) else (none)) else (some 0)
def impl_undosFault.j1 : Nat → List (S81) → Int → Int → Bool → Int → Bool → Bool → Int → Option (Int)
  | 0, _, _, _, _, _, _, _, _ => none
  | k + 1, x8, x9, x10, x14, x231000, x231001, x231002, x231003 => if x14 = true then (some 3) else (if x231001 = true then (impl_undosFault.j2 k x8 x9 x10 false x231000 x231001 x231002 x231003) else (if x231002 = true then (impl_undosFault.j2 k x8 x9 x10 true x231000 x231001 x231002 x231003) else (impl_undosFault.j2 k x8 x9 x10 (x231003 != 0) x231000 x231001 x231002 x231003)))
def impl_undosFault.j2 : Nat → List (S81) → Int → Int → Bool → Int → Bool → Bool → Int → Option (Int)
  | 0, _, _, _, _, _, _, _, _ => none
  | k + 1, x8, x9, x10, x25, x231000, x231001, x231002, x231003 => if x25 = true then (some 1) else (if x231002 = true then (if x231003 = 0 then (impl_undosFault.l0 k x8 x9 (wrap64 (x10 + 1))) else (some 1)) else (impl_undosFault.l0 k x8 x9 (wrap64 (x10 + 1))))
end
def impl_undosFault.f (k : Nat) (l0 : List (S81)) : Option (Int) := if (l0.length : Int) > 60 then (some 2) else (impl_undosFault.l0 k l0 (l0.length : Int) 0)

/-! ### impl_ChainFault: function 35 -/
mutual
def impl_ChainFault.l0 : Nat → List (S51) → List (S51) → Int → Int → Option (Int)
  | 0, _, _, _, _ => none
  | k + 1, x0, x8, x9, x10 => if x10 < x9 then (if 0 ≤ x10 then (if x10 < (x8.length : Int) then ((impl_isTxn.f ((rd_T51 x8 x10).f0)).bind fun t235 => (if t235 = true then ((impl_isLsn.f ((rd_T51 x8 x10).f1)).bind fun t236 => (if t236 = true then ((impl_isValue.f ((rd_T51 x8 x10).f3)).bind fun t237 => (impl_ChainFault.j1 k x0 x10 x8 x9 x10 (!t237) ((rd_T51 x8 x10).f0) ((rd_T51 x8 x10).f1) ((rd_T51 x8 x10).f2) ((rd_T51 x8 x10).f3))) else (impl_ChainFault.j1 k x0 x10 x8 x9 x10 true ((rd_T51 x8 x10).f0) ((rd_T51 x8 x10).f1) ((rd_T51 x8 x10).f2) ((rd_T51 x8 x10).f3)))) else (impl_ChainFault.j1 k x0 x10 x8 x9 x10 true ((rd_T51 x8 x10).f0) ((rd_T51 x8 x10).f1) ((rd_T51 x8 x10).f2) ((rd_T51 x8 x10).f3)))) else (none)) else (none)) else (some 0)
def impl_ChainFault.j1 : Nat → List (S51) → Int → List (S51) → Int → Int → Bool → Int → Int → Bool → Int → Option (Int)
  | 0, _, _, _, _, _, _, _, _, _, _ => none
  | k + 1, x0, x3, x8, x9, x10, x15, x235000, x235001, x235002, x235003 => if x15 = true then (some 3) else (if x235002 = true then (impl_ChainFault.j2 k x0 x3 x8 x9 x10 (x235003 != 0) x235000 x235001 x235002 x235003) else (impl_ChainFault.j2 k x0 x3 x8 x9 x10 false x235000 x235001 x235002 x235003))
def impl_ChainFault.j2 : Nat → List (S51) → Int → List (S51) → Int → Int → Bool → Int → Int → Bool → Int → Option (Int)
  | 0, _, _, _, _, _, _, _, _, _, _ => none
  | k + 1, x0, x3, x8, x9, x10, x32, x235000, x235001, x235002, x235003 => if x32 = true then (some 1) else (if x235001 = 0 then (impl_ChainFault.j3 k x0 x3 x8 x9 x10 (decide (x3 > 0)) x235000 x235001 x235002 x235003) else (impl_ChainFault.j3 k x0 x3 x8 x9 x10 false x235000 x235001 x235002 x235003))
def impl_ChainFault.j3 : Nat → List (S51) → Int → List (S51) → Int → Int → Bool → Int → Int → Bool → Int → Option (Int)
  | 0, _, _, _, _, _, _, _, _, _, _ => none
  | k + 1, x0, x3, x8, x9, x10, x32, x235000, x235001, x235002, x235003 => if x32 = true then (some 1) else (if x3 > 0 then (if 0 ≤ (wrap64 (x3 - 1)) then (if (wrap64 (x3 - 1)) < (x0.length : Int) then (if ((rd_T51 x0 (wrap64 (x3 - 1))).f1) = 0 then (impl_ChainFault.l0 k x0 x8 x9 (wrap64 (x10 + 1))) else (if x235001 ≥ ((rd_T51 x0 (wrap64 (x3 - 1))).f1) then (some 1) else (impl_ChainFault.l0 k x0 x8 x9 (wrap64 (x10 + 1))))) else (none)) else (none)) else (impl_ChainFault.l0 k x0 x8 x9 (wrap64 (x10 + 1))))
end
def impl_ChainFault.f (k : Nat) (l0 : List (S51)) : Option (Int) := if (l0.length : Int) > 12 then (some 2) else (impl_ChainFault.l0 k l0 l0 (l0.length : Int) 0)

/-! ### slices_IndexFunc_impl_Version: function 60 -/

/-! ### slices_ContainsFunc_impl_Version: function 36 -/

/-! ### slices_IndexFunc_impl_Txn: function 61 -/

/-! ### slices_ContainsFunc_impl_Txn: function 38 -/

/-! ### slices_IndexFunc_impl_Undo: function 63 -/

/-! ### slices_ContainsFunc_impl_Undo: function 41 -/

/-! ### impl_isOpenOf: function 43 -/
def impl_isOpenOf.f (l0 : List (S51)) (a1 : Int) : Option (Bool) := if (l0.length : Int) > 0 then (if 0 < (l0.length : Int) then (if ((rd_T51 l0 0).f1) = 0 then (some (((rd_T51 l0 0).f0) == a1)) else (some false)) else (none)) else (some false)

/-! ### slices_BinarySearchFunc_impl_Row: function 75 -/

/-! ### impl_EngineFault: function 17 -/
-- NEEDS Derived.Test.YtldlnafakfigeaaDoorLb
def undoesF (t : S45) (key : Int) : Bool := (t.f2 == 1) && t.f4.any fun u => u.f0 == key
def rowC (key : Int) (x : S49) : Int := wrap64 (x.f0 - key)
def chainF (rows : List S49) (key : Int) : List S51 := if Lb.bsHit (rowC key) z49 rows = true then (rows.getD (Lb.bs (rowC key) z49 rows).toNat z49).f1 else []
def txnG (uf : List S81 → Int) (nx ck : Int) (l : List S45) (i : Nat) (t q : S45) : Int := if (inB t.f0 1 (nx - 1) && (inB t.f1 0 ck && (inB t.f2 1 3 && inB t.f3 0 ck))) = true then (if txnBad l i t q = true then 1 else uf t.f4) else 3
def txnsG (uf : List S81 → Int) (nx ck : Int) (l : List S45) : Int := scanI (fun i => txnG uf nx ck l i (l.getD i z45) (l.getD (i - 1) z45)) l.length 0
def fstBad (ck : Int) (txns : List S45) (key : Int) (ch : List S51) (v : S51) : Bool := ch.any (fun x => decide (ck < x.f1)) || ((v.f1 == 0) && !(txns.any fun t => (t.f0 == v.f0) && undoesF t key))
def rowG (cf : List S51 → Int) (ck : Int) (txns : List S45) (i : Nat) (t q : S49) : Int := if inB t.f0 0 31 = true then (if rowBad i t q = true then 1 else if cf t.f1 = 0 then (if fstBad ck txns t.f0 t.f1 (t.f1.getD 0 z51) = true then 1 else 0) else cf t.f1) else 3
def rowsG (cf : List S51 → Int) (ck : Int) (txns : List S45) (l : List S49) : Int := scanI (fun i => rowG cf ck txns i (l.getD i z49) (l.getD (i - 1) z49)) l.length 0
def isOpF (l : List S51) (a : Int) : Bool := decide (0 < l.length) && (((l.getD 0 z51).f1 == 0) && ((l.getD 0 z51).f0 == a))
def ownG (rows : List S49) (id : Int) (us : List S81) (i : Nat) (u : S81) : Int := if isOpF (chainF rows u.f0) id = true then (if ((!(us.take i).any (fun x => x.f0 == u.f0)) == u.f1) = true then 1 else 0) else 1
def ownT (rows : List S49) (t : S45) : Int := scanI (fun i => ownG rows t.f0 t.f4 i (t.f4.getD i z81)) t.f4.length 0
def ownsG (txns : List S45) (rows : List S49) : Int := scanI (fun i => ownT rows (txns.getD i z45)) txns.length 0
def enF (uf : List S81 → Int) (cf : List S51 → Int) (nx ck : Int) (txns : List S45) (rows : List S49) : Int :=
  if inB nx 1 999 = true then (if inB ck 0 1000000 = true then (if 20 < txns.length ∨ 32 < rows.length then 2 else if txnsG uf nx ck txns = 0 then (if rowsG cf ck txns rows = 0 then ownsG txns rows else rowsG cf ck txns rows) else txnsG uf nx ck txns) else 3) else 3
/-- What EngineFault tells; 'none' where an undo list's or a chain's fault is not known in k rounds. -/
def impl_EngineFault.uf (k : Nat) (l : List S81) : Int := (impl_undosFault.f k l).getD 0
def impl_EngineFault.cf (k : Nat) (l : List S51) : Int := (impl_ChainFault.f k l).getD 0
def impl_EngineFault.f (k : Nat) (a0_0 : Int) (a0_1 : Int) (l0_2 : List S45) (l0_3 : List S49) : Option Int :=
  if (l0_2.all fun t => (impl_undosFault.f k t.f4).isSome) = true then (if (l0_3.all fun r => (impl_ChainFault.f k r.f1).isSome) = true then some (enF (impl_EngineFault.uf k) (impl_EngineFault.cf k) a0_0 a0_1 l0_2 l0_3) else none) else none

/-! ### impl_joined: function 45 -/
-- NEEDS Derived.Lib.Join
def impl_joined.f (l0 : List ByteArray) : Option ByteArray := if l0 ≠ [] ∧ (Lib.join (l0.map (·.data.toList)) [32]).length ≤ 140737488355328 ∧ l0.length ≤ 140737488355328 then some ⟨(Lib.join (l0.map (·.data.toList)) [32]).toArray⟩ else none


/-! ### impl_dec: function 46 -/
-- NEEDS Derived.Lib.ItoaNum
def impl_dec.f (a0 : Int) : Option ByteArray := if -9223372036854775808 ≤ a0 ∧ a0 ≤ 9223372036854775807 then some ⟨(Lib.itoa a0).toArray⟩ else none


/-! ### impl_Engine_text: function 18 -/
mutual
def impl_Engine_text.l0 : Nat → ByteArray → List (S45) → Int → Int → Int → Int → List (S45) → List (S49) → Option (ByteArray)
  | 0, _, _, _, _, _, _, _, _ => none
  | k + 1, x3, x22, x23, x24, x243000, x243001, x243002, x243003 => if x24 < x23 then (if 0 ≤ x24 then (if x24 < (x22.length : Int) then ((impl_dec.f ((rd_T45 x22 x24).f0)).bind fun t251 => ((impl_dec.f ((rd_T45 x22 x24).f1)).bind fun t252 => ((impl_dec.f ((rd_T45 x22 x24).f2)).bind fun t253 => ((impl_dec.f ((rd_T45 x22 x24).f3)).bind fun t254 => ((impl_dec.f (((rd_T45 x22 x24).f4).length : Int)).bind fun t255 => ((impl_joined.f (([(⟨#[116, 120, 110]⟩ : ByteArray), t251, t252, t253, t254, t255] : List ByteArray))).bind fun t259 => (if t259.size + 1 ≤ 9223372036854775807 then (if x3.size + (t259 ++ (⟨#[10]⟩ : ByteArray)).size ≤ 9223372036854775807 then (impl_Engine_text.l0 k (x3 ++ (t259 ++ (⟨#[10]⟩ : ByteArray))) x22 x23 (wrap64 (x24 + 1)) x243000 x243001 x243002 x243003) else (none)) else (none)))))))) else (none)) else (none)) else (impl_Engine_text.l1 k x3 x243003 (x243003.length : Int) 0)
def impl_Engine_text.l1 : Nat → ByteArray → List (S49) → Int → Int → Option (ByteArray)
  | 0, _, _, _, _ => none
  | k + 1, x3, x51, x52, x53 => if x53 < x52 then (if 0 ≤ x53 then (if x53 < (x51.length : Int) then ((impl_dec.f ((rd_T49 x51 x53).f0)).bind fun t262 => (impl_Engine_text.l2 k x3 (([(⟨#[114, 111, 119]⟩ : ByteArray), t262] : List ByteArray)) x51 x52 x53 ((rd_T49 x51 x53).f1) (((rd_T49 x51 x53).f1).length : Int) 0)) else (none)) else (none)) else (some x3)
def impl_Engine_text.l2 : Nat → ByteArray → List ByteArray → List (S49) → Int → Int → List (S51) → Int → Int → Option (ByteArray)
  | 0, _, _, _, _, _, _, _, _ => none
  | k + 1, x3, x8, x51, x52, x53, x62, x63, x64 => if x64 < x63 then (if 0 ≤ x64 then (if x64 < (x62.length : Int) then ((impl_dec.f ((rd_T51 x62 x64).f0)).bind fun t269 => (if t269.size + 1 ≤ 9223372036854775807 then ((impl_dec.f ((rd_T51 x62 x64).f1)).bind fun t270 => (if (t269 ++ (⟨#[58]⟩ : ByteArray)).size + t270.size ≤ 9223372036854775807 then (if (rd_T51 x62 x64).f2 = true then (if ((t269 ++ (⟨#[58]⟩ : ByteArray)) ++ t270).size + 1 ≤ 9223372036854775807 then (if x8.length < 8796093022208 then (impl_Engine_text.l2 k x3 (x8 ++ [((t269 ++ (⟨#[58]⟩ : ByteArray)) ++ t270) ++ (⟨#[45]⟩ : ByteArray)]) x51 x52 x53 x62 x63 (wrap64 (x64 + 1))) else (none)) else (none)) else ((impl_dec.f ((rd_T51 x62 x64).f3)).bind fun t274 => (if 1 + t274.size ≤ 9223372036854775807 then (if ((t269 ++ (⟨#[58]⟩ : ByteArray)) ++ t270).size + ((⟨#[61]⟩ : ByteArray) ++ t274).size ≤ 9223372036854775807 then (if x8.length < 8796093022208 then (impl_Engine_text.l2 k x3 (x8 ++ [((t269 ++ (⟨#[58]⟩ : ByteArray)) ++ t270) ++ ((⟨#[61]⟩ : ByteArray) ++ t274)]) x51 x52 x53 x62 x63 (wrap64 (x64 + 1))) else (none)) else (none)) else (none)))) else (none))) else (none))) else (none)) else (none)) else ((impl_joined.f x8).bind fun t266 => (if t266.size + 1 ≤ 9223372036854775807 then (if x3.size + (t266 ++ (⟨#[10]⟩ : ByteArray)).size ≤ 9223372036854775807 then (impl_Engine_text.l1 k (x3 ++ (t266 ++ (⟨#[10]⟩ : ByteArray))) x51 x52 (wrap64 (x53 + 1))) else (none)) else (none)))
end
def impl_Engine_text.f (k : Nat) (a0_0 : Int) (a0_1 : Int) (l0_2 : List (S45)) (l0_3 : List (S49)) : Option (ByteArray) := (impl_dec.f a0_1).bind fun t243 => ((impl_dec.f a0_0).bind fun t244 => ((impl_joined.f (([(⟨#[99, 108, 111, 99, 107]⟩ : ByteArray), t243, t244] : List ByteArray))).bind fun t248 => (if t248.size + 1 ≤ 9223372036854775807 then (impl_Engine_text.l0 k (t248 ++ (⟨#[10]⟩ : ByteArray)) l0_2 (l0_2.length : Int) 0 a0_0 a0_1 l0_2 l0_3) else (none))))

/-! ### impl_TextOf: function 7 -/
def impl_TextOf.f (k : Nat) (a0_0 : Int) (a0_1 : Int) (l0_2 : List (S45)) (l0_3 : List (S49)) : Option (Int × ByteArray) := (impl_EngineFault.f k a0_0 a0_1 l0_2 l0_3).bind fun t280 => (if t280 = 0 then ((impl_Engine_text.f k a0_0 a0_1 l0_2 l0_3).bind fun t281 => (some (0, t281))) else (some (t280, (⟨#[]⟩ : ByteArray))))

/-! ### laws_eqTextResult: function 8 -/
def laws_eqTextResult.f (a0_0 : Int) (a0_1 : ByteArray) (a1_0 : Int) (a1_1 : ByteArray) : Option (Bool) := if a0_0 = a1_0 then (if a0_1.toList = a1_1.toList then (some true) else (some false)) else (some false)

/-! ### laws_eqUndo: function 81 -/
def laws_eqUndo.f (a0_0 : Int) (a0_1 : Bool) (a0_2 : Bool) (a0_3 : Int) (a1_0 : Int) (a1_1 : Bool) (a1_2 : Bool) (a1_3 : Int) : Option (Bool) := if a0_0 = a1_0 then (if (a0_1 != a1_1) = true then (some false) else (if (a0_2 != a1_2) = true then (some false) else (if a0_3 = a1_3 then (some true) else (some false)))) else (some false)

/-! ### laws_eqUndoS: function 67 -/
def laws_eqUndoS.l0 : Nat → List (S81) → List (S81) → Int → Option (Bool)
  | 0, _, _, _ => none
  | k + 1, x0, x1, x5 => if x5 < (x0.length : Int) then (if 0 ≤ x5 then (if x5 < (x1.length : Int) then ((laws_eqUndo.f ((rd_T81 x0 x5).f0) ((rd_T81 x0 x5).f1) ((rd_T81 x0 x5).f2) ((rd_T81 x0 x5).f3) ((rd_T81 x1 x5).f0) ((rd_T81 x1 x5).f1) ((rd_T81 x1 x5).f2) ((rd_T81 x1 x5).f3)).bind fun t288 => (if t288 = true then (laws_eqUndoS.l0 k x0 x1 (wrap64 (x5 + 1))) else (some false))) else (none)) else (none)) else (some true)
def laws_eqUndoS.f (k : Nat) (l0 : List (S81)) (l1 : List (S81)) : Option (Bool) := if (l0.length : Int) = (l1.length : Int) then (laws_eqUndoS.l0 k l0 l1 0) else (some false)

/-! ### laws_eqTxn: function 47 -/
def laws_eqTxn.f (k : Nat) (a0_0 : Int) (a0_1 : Int) (a0_2 : Int) (a0_3 : Int) (l0_4 : List (S81)) (a1_0 : Int) (a1_1 : Int) (a1_2 : Int) (a1_3 : Int) (l1_4 : List (S81)) : Option (Bool) := if a0_0 = a1_0 then (if a0_1 = a1_1 then (if a0_2 = a1_2 then (if a0_3 = a1_3 then ((laws_eqUndoS.f k l0_4 l1_4).bind fun t291 => (if t291 = true then (some true) else (some false))) else (some false)) else (some false)) else (some false)) else (some false)

/-! ### laws_eqTxnS: function 19 -/
def laws_eqTxnS.l0 : Nat → List (S45) → List (S45) → Int → Option (Bool)
  | 0, _, _, _ => none
  | k + 1, x0, x1, x5 => if x5 < (x0.length : Int) then (if 0 ≤ x5 then (if x5 < (x1.length : Int) then ((laws_eqTxn.f k ((rd_T45 x0 x5).f0) ((rd_T45 x0 x5).f1) ((rd_T45 x0 x5).f2) ((rd_T45 x0 x5).f3) ((rd_T45 x0 x5).f4) ((rd_T45 x1 x5).f0) ((rd_T45 x1 x5).f1) ((rd_T45 x1 x5).f2) ((rd_T45 x1 x5).f3) ((rd_T45 x1 x5).f4)).bind fun t294 => (if t294 = true then (laws_eqTxnS.l0 k x0 x1 (wrap64 (x5 + 1))) else (some false))) else (none)) else (none)) else (some true)
def laws_eqTxnS.f (k : Nat) (l0 : List (S45)) (l1 : List (S45)) : Option (Bool) := if (l0.length : Int) = (l1.length : Int) then (laws_eqTxnS.l0 k l0 l1 0) else (some false)

/-! ### laws_eqVersion: function 82 -/
def laws_eqVersion.f (a0_0 : Int) (a0_1 : Int) (a0_2 : Bool) (a0_3 : Int) (a1_0 : Int) (a1_1 : Int) (a1_2 : Bool) (a1_3 : Int) : Option (Bool) := if a0_0 = a1_0 then (if a0_1 = a1_1 then (if (a0_2 != a1_2) = true then (some false) else (if a0_3 = a1_3 then (some true) else (some false))) else (some false)) else (some false)

/-! ### laws_eqVersionS: function 68 -/
def laws_eqVersionS.l0 : Nat → List (S51) → List (S51) → Int → Option (Bool)
  | 0, _, _, _ => none
  | k + 1, x0, x1, x5 => if x5 < (x0.length : Int) then (if 0 ≤ x5 then (if x5 < (x1.length : Int) then ((laws_eqVersion.f ((rd_T51 x0 x5).f0) ((rd_T51 x0 x5).f1) ((rd_T51 x0 x5).f2) ((rd_T51 x0 x5).f3) ((rd_T51 x1 x5).f0) ((rd_T51 x1 x5).f1) ((rd_T51 x1 x5).f2) ((rd_T51 x1 x5).f3)).bind fun t299 => (if t299 = true then (laws_eqVersionS.l0 k x0 x1 (wrap64 (x5 + 1))) else (some false))) else (none)) else (none)) else (some true)
def laws_eqVersionS.f (k : Nat) (l0 : List (S51)) (l1 : List (S51)) : Option (Bool) := if (l0.length : Int) = (l1.length : Int) then (laws_eqVersionS.l0 k l0 l1 0) else (some false)

/-! ### laws_eqRow: function 48 -/
def laws_eqRow.f (k : Nat) (a0_0 : Int) (l0_1 : List (S51)) (a1_0 : Int) (l1_1 : List (S51)) : Option (Bool) := if a0_0 = a1_0 then ((laws_eqVersionS.f k l0_1 l1_1).bind fun t302 => (if t302 = true then (some true) else (some false))) else (some false)

/-! ### laws_eqRowS: function 20 -/
def laws_eqRowS.l0 : Nat → List (S49) → List (S49) → Int → Option (Bool)
  | 0, _, _, _ => none
  | k + 1, x0, x1, x5 => if x5 < (x0.length : Int) then (if 0 ≤ x5 then (if x5 < (x1.length : Int) then ((laws_eqRow.f k ((rd_T49 x0 x5).f0) ((rd_T49 x0 x5).f1) ((rd_T49 x1 x5).f0) ((rd_T49 x1 x5).f1)).bind fun t305 => (if t305 = true then (laws_eqRowS.l0 k x0 x1 (wrap64 (x5 + 1))) else (some false))) else (none)) else (none)) else (some true)
def laws_eqRowS.f (k : Nat) (l0 : List (S49)) (l1 : List (S49)) : Option (Bool) := if (l0.length : Int) = (l1.length : Int) then (laws_eqRowS.l0 k l0 l1 0) else (some false)

/-! ### laws_eqEngine: function 9 -/
def laws_eqEngine.f (k : Nat) (a0_0 : Int) (a0_1 : Int) (l0_2 : List (S45)) (l0_3 : List (S49)) (a1_0 : Int) (a1_1 : Int) (l1_2 : List (S45)) (l1_3 : List (S49)) : Option (Bool) := if a0_0 = a1_0 then (if a0_1 = a1_1 then ((laws_eqTxnS.f k l0_2 l1_2).bind fun t308 => (if t308 = true then ((laws_eqRowS.f k l0_3 l1_3).bind fun t309 => (if t309 = true then (some true) else (some false))) else (some false))) else (some false)) else (some false)

/-! ### laws_FnExactTextOf: function 3 -/
def laws_FnExactTextOf.f (k : Nat) (a0_0 : Int) (a0_1 : Int) (l0_2 : List (S61)) (l0_3 : List (S65)) : Option (Bool) := (laws_szEngine.f k a0_0 a0_1 l0_2 l0_3 1048576).bind fun t311 => (if t311 < 0 then (some true) else ((laws_toEngine.f k a0_0 a0_1 l0_2 l0_3).bind fun bt312 => ((spec_TextOf.f k bt312.1 bt312.2.1 bt312.2.2.1 bt312.2.2.2).bind fun bt320 => ((laws_toEngine.f k a0_0 a0_1 l0_2 l0_3).bind fun bt323 => ((impl_TextOf.f k bt323.1 bt323.2.1 bt323.2.2.1 bt323.2.2.2).bind fun bt332 => ((laws_eqTextResult.f bt332.1 bt332.2 bt320.1 bt320.2).bind fun t335 => (if t335 = true then ((laws_toEngine.f k a0_0 a0_1 l0_2 l0_3).bind fun bt336 => ((laws_eqEngine.f k bt323.1 bt323.2.1 bt323.2.2.1 bt323.2.2.2 bt336.1 bt336.2.1 bt336.2.2.1 bt336.2.2.2).bind fun t344 => (if t344 = true then (some true) else (some false)))) else (some false))))))))

end Go.Proofs.YtldlnafakfigeaaDoor.P
