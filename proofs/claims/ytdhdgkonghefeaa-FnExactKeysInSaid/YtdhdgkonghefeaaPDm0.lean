-- Printed by this session's own program over the kit's print (wip/tools/mp.py). Not trusted: Lean checks it.
import Derived.Test.YtdhdgkonghefeaaP0
import Derived.Test.YtdhdgkonghefeaaWRepsOne
import Derived.Test.YtdhdgkonghefeaaLb
namespace Go.Proofs.Ytdhdgkonghefeaa.P
open Go.RowKit Go.Proofs.YtdhdgkonghefeaaW.PrintWords Go.Proofs.YtdhdgkonghefeaaW.PrintLast Go.Proofs.YtdhdgkonghefeaaW.PrintMore
attribute [local go_sem] max2_int min2_int max_two min_two max_three min_three max_four min_four   -- for this text's walks alone
set_option linter.unusedVariables false
set_option linter.unusedSimpArgs false

/-! ### spec_l1In: function 32 -/
def spec_l1In.f (a0 : Int) (a1 : Int) (a2 : Int) : Option (Bool) := if a0 ≥ a1 then (some (decide (a0 ≤ a2))) else (some false)

/-! ### spec_l4Key: function 49 -/
def spec_l4Key.f (a0 : Int) : Option (Bool) := (spec_l1In.f a0 0 10000).bind fun t108 => (some t108)

/-! ### spec_l4Counts: function 62 -/
-- NEEDS Derived.Test.YtdhdgkonghefeaaLb
def inB (a lo hi : Int) : Bool := decide (lo ≤ a) && decide (a ≤ hi)
def scanI (f : Nat → Int) : Nat → Nat → Int
  | 0, _ => 0
  | m + 1, i => if f i = 0 then scanI f m (i + 1) else f i
def countsB (n : S58) : Bool := if n.f0 = true then decide ((n.f1.length : Int) ≤ 3) && decide ((n.f2.length : Int) = 0) else decide (1 ≤ (n.f1.length : Int)) && decide ((n.f1.length : Int) ≤ 3) && decide ((n.f2.length : Int) = (n.f1.length : Int) + 1)


/-! ### spec_l4Node: function 31 -/
-- NEEDS Derived.Test.YtdhdgkonghefeaaLb
def keyF (ks : List Int) (i : Nat) : Int := if inB (ks.getD i 0) 0 10000 = true then 0 else 3
def kidF (nn : Nat) (ds : List Int) (i : Nat) : Int := if inB (ds.getD i 0) 0 (wrap64 ((nn : Int) - 1)) = true then 0 else 3
def riseF (ks : List Int) (i : Nat) : Int := if ks.getD i 0 ≤ ks.getD (i - 1) 0 then 1 else 0
def nodeF (nn : Nat) (n : S58) : Int := if countsB n = true then (if scanI (keyF n.f1) n.f1.length 0 = 0 then (if scanI (kidF nn n.f2) n.f2.length 0 = 0 then scanI (riseF n.f1) (n.f1.length - 1) 1 else scanI (kidF nn n.f2) n.f2.length 0) else scanI (keyF n.f1) n.f1.length 0) else 1


/-! ### spec_l1Has: function 63 -/
def spec_l1Has.l0 : Nat → List Int → Int → Int → Option (Bool)
  | 0, _, _, _ => none
  | k + 1, x0, x1, x5 => if x5 < (x0.length : Int) then (if 0 ≤ x5 then (if (rd x0 x5) = x1 then (some true) else (spec_l1Has.l0 k x0 x1 (wrap64 (x5 + 1)))) else (none)) else (some false)
def spec_l1Has.f (k : Nat) (l0 : List Int) (a1 : Int) : Option (Bool) := spec_l1Has.l0 k l0 a1 0

/-! ### spec_l4Walk: function 33 -/
-- NEEDS Derived.Test.YtdhdgkonghefeaaLb
structure G4 where
  seen : List Int
  dep : Nat
  bad : Bool
def keysBad (lo hi : Int) (ks : List Int) : Bool := ks.any fun x => decide (x < lo) || decide (hi ≤ x)
def loK (n : S58) (lo : Int) (i : Nat) : Int := if 0 < i then n.f1.getD (i - 1) 0 else lo
def hiK (n : S58) (hi : Int) (i : Nat) : Int := if i < n.f1.length then n.f1.getD i 0 else hi
def kidsW (v : G4 → Int → Int → Int → Nat → Option G4) (n : S58) (lo hi : Int) (d : Nat) : Nat → Nat → G4 → Option G4
  | 0, _, g => some g
  | m + 1, i, g => if g.bad = true then some g else (v g (n.f2.getD i 0) (loK n lo i) (hiK n hi i) (d + 1)).bind fun g' => kidsW v n lo hi d m (i + 1) g'
def walkW (nodes : List S58) : Nat → G4 → Int → Int → Int → Nat → Option G4
  | 0, _, _, _, _, _ => none
  | k + 1, g, at_, lo, hi, d => if g.seen.contains at_ = true then some ⟨g.seen, g.dep, true⟩ else
      if (nodes.getD at_.toNat z58).f0 = true then some ⟨g.seen ++ [at_], d, (g.bad || keysBad lo hi (nodes.getD at_.toNat z58).f1) || (decide (g.dep ≠ 0) && decide (g.dep ≠ d))⟩
      else kidsW (walkW nodes k) (nodes.getD at_.toNat z58) lo hi d (nodes.getD at_.toNat z58).f2.length 0 ⟨g.seen ++ [at_], g.dep, g.bad || keysBad lo hi (nodes.getD at_.toNat z58).f1⟩
def kidAt (ks : List Int) (key : Int) : Nat := (ks.takeWhile fun x => decide (x ≤ key)).length
def pathW (nodes : List S58) (key : Int) : Nat → Int → Option (List Int)
  | 0, _ => none
  | k + 1, at_ => if (nodes.getD at_.toNat z58).f0 = true then some [at_] else (pathW nodes key k ((nodes.getD at_.toNat z58).f2.getD (kidAt (nodes.getD at_.toNat z58).f1 key) 0)).map (at_ :: ·)
def inR (nn : Nat) (l : List Int) : Prop := l.Nodup ∧ ∀ x ∈ l, 0 ≤ x ∧ x < nn
def ups (nn : Nat) : List Int := (List.range nn).map fun i : Nat => (i : Int)
def kidsOk (nodes : List S58) : Prop := ∀ n ∈ nodes, ∀ d ∈ n.f2, 0 ≤ d ∧ d < (nodes.length : Int)
/-- The walk's state in its box: the row of what was seen, the depth, the fault. -/
def StG (w0 W : World) (gb : Nat) (v : Value) (s : List Int) (dep : Nat) (bad : Bool) : Prop := W.heap[gb]? = some (.cells #[v, .int .i64 (dep : Int), .bool bad] 61 (0, 0)) ∧ Kd.R (Kd.int .i64) 2 W w0.heap.size (fun _ => True) v s ∧ Below w0.heap.size w0 W


/-! ### spec_TreeFault: function 10 -/
-- NEEDS Derived.Test.YtdhdgkonghefeaaLb
def treeEnd (nn : Nat) (o : Option G4) : Int := match o with | some g => if g.bad = true then 1 else if (g.seen.length : Int) = (nn : Int) then 0 else 1 | none => 0
def treeF (root : Int) (nodes : List S58) : Int := if (nodes.length : Int) < 1 then 2 else if (60 : Int) < (nodes.length : Int) then 2 else if scanI (fun i => nodeF nodes.length (nodes.getD i z58)) nodes.length 0 = 0 then (if inB root 0 (wrap64 ((nodes.length : Int) - 1)) = true then treeEnd nodes.length (walkW nodes 61 ⟨[], 0, false⟩ root 0 10001 1) else 3) else scanI (fun i => nodeF nodes.length (nodes.getD i z58)) nodes.length 0
def spec_TreeFault.f (a0_0 : Int) (l0_1 : List S58) : Option Int := some (treeF a0_0 l0_1)


/-! ### slices_IndexFunc_int64: function 65 -/

/-! ### slices_ContainsFunc_int64: function 35 -/

/-! ### impl_within: function 55 -/
def impl_within.f (a0 : Int) (a1 : Int) (a2 : Int) : Option (Bool) := if a1 ≤ a0 then (some (decide (a0 ≤ a2))) else (some false)

/-! ### impl_Tree_hasNode: function 39 -/
def impl_Tree_hasNode.f (a0_0 : Int) (l0_1 : List (S58)) (a1 : Int) : Option (Bool) := (impl_within.f a1 0 (wrap64 ((l0_1.length : Int) - 1))).bind fun t143 => (some t143)

/-! ### impl_rise: function 40 -/
def impl_rise.l0 : Nat → List Int → Int → Option (Bool)
  | 0, _, _ => none
  | k + 1, x0, x3 => if x3 < (x0.length : Int) then (if 0 ≤ x3 then (if 0 ≤ (wrap64 (x3 - 1)) then (if (wrap64 (x3 - 1)) < (x0.length : Int) then (if (rd x0 x3) ≤ (rd x0 (wrap64 (x3 - 1))) then (some false) else (impl_rise.l0 k x0 (wrap64 (x3 + 1)))) else (none)) else (none)) else (none)) else (some true)
def impl_rise.f (k : Nat) (l0 : List Int) : Option (Bool) := impl_rise.l0 k l0 1

/-! ### impl_treeWalk_visit: function 41 -/
-- NEEDS Derived.Test.YtdhdgkonghefeaaLb
def seenB (nn : Nat) (s : List Int) : List Bool := (List.range nn).map fun i : Nat => s.contains (i : Int)
/-- The walker in its box, and its row. -/
def StV (w0 W : World) (wb rb cap cN nn : Nat) (root : Int) (AN : Option Addr) (xs : List Bool) (dep : Nat) (bad : Bool) : Prop := W.heap[wb]? = some (.cells #[.int .i64 root, .slice AN nn cN, .slice (some ⟨rb, 0, none⟩) nn cap, .int .i64 (dep : Int), .bool bad] 71 (0, 0)) ∧ Kd.R Kd.bool 4 W w0.heap.size (fun _ => True) (.slice (some ⟨rb, 0, none⟩) nn cap) xs ∧ Below w0.heap.size w0 W


/-! ### slices_Index_bool: function 66 -/
def slices_Index_bool.l0 : Nat → List Bool → Bool → Int → Int → Option (Int)
  | 0, _, _, _, _ => none
  | k + 1, x0, x1, x7, x8 => if x8 < x7 then (if 0 ≤ x8 then (if x8 < (x0.length : Int) then (if (x1 == (rdOf false x0 x8)) = true then (some x8) else (slices_Index_bool.l0 k x0 x1 x7 (wrap64 (x8 + 1)))) else (none)) else (none)) else (some (-1))
def slices_Index_bool.f (k : Nat) (l0 : List Bool) (a1 : Bool) : Option (Int) := slices_Index_bool.l0 k l0 a1 (l0.length : Int) 0

/-! ### slices_Contains_bool: function 42 -/
def slices_Contains_bool.f (k : Nat) (l0 : List Bool) (a1 : Bool) : Option (Bool) := (slices_Index_bool.f k l0 a1).bind fun t147 => (some (decide (t147 ≥ 0)))

/-! ### impl_isTreeKey: function 37 -/
def impl_isTreeKey.f (a0 : Int) : Option (Bool) := (impl_within.f a0 0 10000).bind fun t258 => (some t258)

/-! ### impl_TreeFault: function 12 -/
-- NEEDS Derived.Test.YtdhdgkonghefeaaLb
def impl_TreeFault.f (a0_0 : Int) (l0_1 : List S58) : Option Int := some (treeF a0_0 l0_1)
def risesB (ks : List Int) : Bool := decide (scanI (riseF ks) (ks.length - 1) 1 = 0)


/-! ### laws_szInt64S: function 76 -/
def laws_szInt64S.f (l0 : List Int) (a1 : Int) : Option (Int) := if (wrap64 (a1 - (l0.length : Int))) < 0 then (some (-1)) else (some (wrap64 (a1 - (l0.length : Int))))

/-! ### laws_szNode: function 61 -/
def laws_szNode.f (a0_0 : Bool) (l0_1 : List Int) (l0_2 : List Int) (a1 : Int) : Option (Int) := (laws_szInt64S.f l0_1 a1).bind fun t102 => (if t102 < 0 then (some (-1)) else ((laws_szInt64S.f l0_2 t102).bind fun t103 => (if t103 < 0 then (some (-1)) else (some t103))))

/-! ### laws_szNodeS: function 30 -/
def laws_szNodeS.l0 : Nat → List (S89) → Int → Int → Option (Int)
  | 0, _, _, _ => none
  | k + 1, x0, x1, x5 => if x5 < (x0.length : Int) then (if 0 ≤ x5 then ((laws_szNode.f ((rd_T89 x0 x5).f0) ((rd_T89 x0 x5).f1) ((rd_T89 x0 x5).f2) x1).bind fun t105 => (if t105 < 0 then (some (-1)) else (laws_szNodeS.l0 k x0 t105 (wrap64 (x5 + 1))))) else (none)) else (some x1)
def laws_szNodeS.f (k : Nat) (l0 : List (S89)) (a1 : Int) : Option (Int) := if (wrap64 (a1 - (l0.length : Int))) < 0 then (some (-1)) else (laws_szNodeS.l0 k l0 (wrap64 (a1 - (l0.length : Int))) 0)

/-! ### laws_szTree: function 9 -/
def laws_szTree.f (k : Nat) (a0_0 : Int) (l0_1 : List (S89)) (a1 : Int) : Option (Int) := (laws_szNodeS.f k l0_1 a1).bind fun t107 => (if t107 < 0 then (some (-1)) else (some t107))

/-! ### laws_toInt64S: function 77 -/
def laws_toInt64S.l0 : Nat → List Int → List Int → Int → Option (List Int)
  | 0, _, _, _ => none
  | k + 1, x0, x3, x4 => if x4 < (x0.length : Int) then (if 0 ≤ x4 then (if x4 < (x3.length : Int) then (laws_toInt64S.l0 k x0 (x3.set (x4 : Int).toNat (rd x0 x4)) (wrap64 (x4 + 1))) else (none)) else (none)) else (some x3)
def laws_toInt64S.f (k : Nat) (l0 : List Int) : Option (List Int) := if 0 ≤ (l0.length : Int) then (if ((l0.length : Int) : Int).toNat ≤ 35184372088832 then (laws_toInt64S.l0 k l0 (List.replicate ((l0.length : Int) : Int).toNat 0) 0) else (none)) else (none)

/-! ### laws_toNode: function 64 -/
def laws_toNode.f (k : Nat) (a0_0 : Bool) (l0_1 : List Int) (l0_2 : List Int) : Option (Bool × List Int × List Int) := (laws_toInt64S.f k l0_1).bind fun t118 => ((laws_toInt64S.f k l0_2).bind fun t121 => (some (a0_0, t118, t121)))

/-! ### laws_toNodeS: function 34 -/
def laws_toNodeS.l0 : Nat → List (S89) → List (S58) → Int → Option ((List (S58)))
  | 0, _, _, _ => none
  | k + 1, x0, x3, x4 => if x4 < (x0.length : Int) then (if 0 ≤ x4 then ((laws_toNode.f k ((rd_T89 x0 x4).f0) ((rd_T89 x0 x4).f1) ((rd_T89 x0 x4).f2)).bind fun bt128 => (if x4 < (x3.length : Int) then (laws_toNodeS.l0 k x0 (x3.set (x4 : Int).toNat (⟨bt128.1, bt128.2.1, bt128.2.2⟩ : S58)) (wrap64 (x4 + 1))) else (none))) else (none)) else (some x3)
def laws_toNodeS.f (k : Nat) (l0 : List (S89)) : Option ((List (S58))) := if 0 ≤ (l0.length : Int) then (if ((l0.length : Int) : Int).toNat ≤ 5026338869833 then (laws_toNodeS.l0 k l0 (List.replicate ((l0.length : Int) : Int).toNat z58) 0) else (none)) else (none)

/-! ### laws_toTree: function 11 -/
def laws_toTree.f (k : Nat) (a0_0 : Int) (l0_1 : List (S89)) : Option (Int × (List (S58))) := (laws_toNodeS.f k l0_1).bind fun t139 => (some (a0_0, t139))

/-! ### laws_eqInt64S: function 50 -/
def laws_eqInt64S.l0 : Nat → List Int → List Int → Int → Option (Bool)
  | 0, _, _, _ => none
  | k + 1, x0, x1, x5 => if x5 < (x0.length : Int) then (if 0 ≤ x5 then (if x5 < (x1.length : Int) then (if (rd x0 x5) = (rd x1 x5) then (laws_eqInt64S.l0 k x0 x1 (wrap64 (x5 + 1))) else (some false)) else (none)) else (none)) else (some true)
def laws_eqInt64S.f (k : Nat) (l0 : List Int) (l1 : List Int) : Option (Bool) := if (l0.length : Int) = (l1.length : Int) then (laws_eqInt64S.l0 k l0 l1 0) else (some false)

/-! ### laws_eqNode: function 67 -/
def laws_eqNode.f (k : Nat) (a0_0 : Bool) (l0_1 : List Int) (l0_2 : List Int) (a1_0 : Bool) (l1_1 : List Int) (l1_2 : List Int) : Option (Bool) := if (a0_0 != a1_0) = true then (some false) else ((laws_eqInt64S.f k l0_1 l1_1).bind fun t152 => (if t152 = true then ((laws_eqInt64S.f k l0_2 l1_2).bind fun t153 => (if t153 = true then (some true) else (some false))) else (some false)))

/-! ### laws_eqNodeS: function 43 -/
def laws_eqNodeS.l0 : Nat → List (S58) → List (S58) → Int → Option (Bool)
  | 0, _, _, _ => none
  | k + 1, x0, x1, x5 => if x5 < (x0.length : Int) then (if 0 ≤ x5 then (if x5 < (x1.length : Int) then ((laws_eqNode.f k ((rd_T58 x0 x5).f0) ((rd_T58 x0 x5).f1) ((rd_T58 x0 x5).f2) ((rd_T58 x1 x5).f0) ((rd_T58 x1 x5).f1) ((rd_T58 x1 x5).f2)).bind fun t156 => (if t156 = true then (laws_eqNodeS.l0 k x0 x1 (wrap64 (x5 + 1))) else (some false))) else (none)) else (none)) else (some true)
def laws_eqNodeS.f (k : Nat) (l0 : List (S58)) (l1 : List (S58)) : Option (Bool) := if (l0.length : Int) = (l1.length : Int) then (laws_eqNodeS.l0 k l0 l1 0) else (some false)

/-! ### laws_eqTree: function 13 -/
def laws_eqTree.f (k : Nat) (a0_0 : Int) (l0_1 : List (S58)) (a1_0 : Int) (l1_1 : List (S58)) : Option (Bool) := if a0_0 = a1_0 then ((laws_eqNodeS.f k l0_1 l1_1).bind fun t159 => (if t159 = true then (some true) else (some false))) else (some false)

/-! ### spec_l4Path: function 47 -/
-- NEEDS Derived.Test.YtdhdgkonghefeaaLb
def spec_l4Path.f (s0_0 : Int) (s0_1 : List S58) (a1 : Int) : Option (List Int) := if treeF s0_0 s0_1 = 0 then pathW s0_1 a1 61 s0_0 else none


/-! ### impl_Tree_path: function 48 -/
mutual
def impl_Tree_path.l0 : Nat → Int → List Int → Int → Int → List (S58) → Option (List Int)
  | 0, _, _, _, _, _ => none
  | k + 1, x1, x5, x6, x185000, x185001 => if x5.length < 17592186044416 then ((some (x5 ++ [x6] : List Int)).bind fun y188 => (if 0 ≤ x6 then (if x6 < (x185001.length : Int) then (if (rd_T58 x185001 x6).f0 = true then (some y188) else (impl_Tree_path.l1 k x1 y188 0 x185000 x185001 ((rd_T58 x185001 x6).f0) ((rd_T58 x185001 x6).f1) ((rd_T58 x185001 x6).f2))) else (none)) else (none))) else (none)
def impl_Tree_path.l1 : Nat → Int → List Int → Int → Int → List (S58) → Bool → List Int → List Int → Option (List Int)
  | 0, _, _, _, _, _, _, _, _ => none
  | k + 1, x1, x5, x8, x185000, x185001, x193000, x193001, x193002 => if x8 < (x193001.length : Int) then (if 0 ≤ x8 then (if x1 ≥ (rd x193001 x8) then (impl_Tree_path.l1 k x1 x5 (wrap64 (x8 + 1)) x185000 x185001 x193000 x193001 x193002) else (if x8 < (x193002.length : Int) then (impl_Tree_path.l0 k x1 x5 (rd x193002 x8) x185000 x185001) else (none))) else (none)) else (if 0 ≤ x8 then (if x8 < (x193002.length : Int) then (impl_Tree_path.l0 k x1 x5 (rd x193002 x8) x185000 x185001) else (none)) else (none))
end
def impl_Tree_path.f (k : Nat) (a0_0 : Int) (l0_1 : List (S58)) (a1 : Int) : Option (List Int) := impl_Tree_path.l0 k a1 (([] : List Int)) a0_0 a0_0 l0_1

/-! ### spec_l4Has: function 44 -/
-- NEEDS Derived.Test.YtdhdgkonghefeaaLb
def lastKeys (nodes : List S58) (p : List Int) : List Int := (nodes.getD (p.getD (p.length - 1) 0).toNat z58).f1
def hasF (root : Int) (nodes : List S58) (key : Int) : Bool := match pathW nodes key 61 root with | some p => (lastKeys nodes p).contains key | none => false
def spec_l4Has.f (s0_0 : Int) (s0_1 : List S58) (a1 : Int) : Option Bool := if treeF s0_0 s0_1 = 0 then some (hasF s0_0 s0_1 a1) else none


/-! ### slices_Index_int64: function 68 -/
def slices_Index_int64.l0 : Nat → List Int → Int → Int → Int → Option (Int)
  | 0, _, _, _, _ => none
  | k + 1, x0, x1, x7, x8 => if x8 < x7 then (if 0 ≤ x8 then (if x8 < (x0.length : Int) then (if x1 = (rd x0 x8) then (some x8) else (slices_Index_int64.l0 k x0 x1 x7 (wrap64 (x8 + 1)))) else (none)) else (none)) else (some (-1))
def slices_Index_int64.f (k : Nat) (l0 : List Int) (a1 : Int) : Option (Int) := slices_Index_int64.l0 k l0 a1 (l0.length : Int) 0

/-! ### slices_Contains_int64: function 45 -/
def slices_Contains_int64.f (k : Nat) (l0 : List Int) (a1 : Int) : Option (Bool) := (slices_Index_int64.f k l0 a1).bind fun t183 => (some (decide (t183 ≥ 0)))

/-! ### impl_Tree_leaf: function 46 -/
-- NEEDS Derived.Test.YtdhdgkonghefeaaLb



/-! ### impl_HasKey: function 15 -/
-- NEEDS Derived.Test.YtdhdgkonghefeaaLb
def impl_HasKey.f (k : Nat) (a0_0 : Int) (l0_1 : List S58) (a1 : Int) : Option Bool := if treeF a0_0 l0_1 = 0 then (impl_Tree_path.f k a0_0 l0_1 a1).bind fun p => if 0 < p.length ∧ p.length ≤ 1000 ∧ 0 ≤ p.getD (p.length - 1) 0 ∧ p.getD (p.length - 1) 0 < (l0_1.length : Int) ∧ (lastKeys l0_1 p).length ≤ 1000 then some ((lastKeys l0_1 p).contains a1) else none else some false


/-! ### laws_eqIntsResult: function 21 -/
def laws_eqIntsResult.f (k : Nat) (a0_0 : Int) (l0_1 : List Int) (a1_0 : Int) (l1_1 : List Int) : Option (Bool) := if a0_0 = a1_0 then ((laws_eqInt64S.f k l0_1 l1_1).bind fun t268 => (if t268 = true then (some true) else (some false))) else (some false)

/-! ### laws_markInt64S: function 52 -/
def laws_markInt64S.l0 : Nat → List Int → Int → Int → Option (Int × List Int)
  | 0, _, _, _ => none
  | k + 1, x0, x1, x5 => if x5 < (x0.length : Int) then (if 0 ≤ x5 then (laws_markInt64S.l0 k (x0.set (x5 : Int).toNat x1) (wrap64 (x1 + 1)) (wrap64 (x5 + 1))) else (none)) else (some (x1, x0))
def laws_markInt64S.f (k : Nat) (l0 : List Int) (a1 : Int) : Option (Int × List Int) := laws_markInt64S.l0 k l0 a1 0

/-! ### laws_markTree: function 22 -/
-- NEEDS Derived.Test.YtdhdgkonghefeaaLb
def nodeW (x : S58) : Nat := 1 + x.f1.length + x.f2.length
def nodesW (l : List S58) : Nat := (l.map nodeW).sum
def laws_markTree.f (k : Nat) (a0_0 : Int) (l0_1 : List S58) (a1 : Int) : Option (Int × List S58) := if 0 ≤ a1 ∧ a1 + (nodesW l0_1 : Int) ≤ 1125899906842624 ∧ l0_1.length ≤ 1048576 then some (a1 + (nodesW l0_1 : Int), l0_1) else none
/-- A slice of ints over a block of its own. -/
def RowOk (w : World) (P : Nat → Prop) (A : Option Addr) (m : Nat) : Prop := m = 0 ∨ ∃ b, A = some ⟨b, 0, none⟩ ∧ P b ∧ ∃ cs : Array Value, w.heap[b]? = some (.cells cs 2 (0, 0)) ∧ m ≤ cs.size
/-- Blocks of ints stay blocks of ints, as long as they were; blocks of nodes stay. -/
def FrM (P : Nat → Prop) (w w' : World) : Prop := Kept w w' P ∧ (∀ (b : Nat) (cs : Array Value), w.heap[b]? = some (.cells cs 2 (0, 0)) → ∃ cs' : Array Value, w'.heap[b]? = some (.cells cs' 2 (0, 0)) ∧ cs'.size = cs.size) ∧ ∀ (b : Nat) (cs : Array Value), w.heap[b]? = some (.cells cs 58 (0, 0)) → w'.heap[b]? = some (.cells cs 58 (0, 0))
/-- The nodes' block and their rows. -/
def NodesOk (w : World) (P : Nat → Prop) (g : Nat) (l : List S58) : Prop := ∃ cs : Array Value, w.heap[g]? = some (.cells cs 58 (0, 0)) ∧ ∀ i : Nat, i < l.length → ∃ b A1 c1 A2 c2, cs[i * 3]? = some (.bool b) ∧ cs[i * 3 + 1]? = some (.slice A1 (l.getD i z58).f1.length c1) ∧ cs[i * 3 + 2]? = some (.slice A2 (l.getD i z58).f2.length c2) ∧ RowOk w P A1 (l.getD i z58).f1.length ∧ RowOk w P A2 (l.getD i z58).f2.length


/-! ### laws_markIntsResult: function 23 -/
def laws_markIntsResult.f (k : Nat) (a0_0 : Int) (l0_1 : List Int) (a1 : Int) : Option (Int × List Int) := (laws_markInt64S.f k l0_1 a1).bind fun bt271 => (some (bt271.1, bt271.2))

/-! ### laws_heldInt64S: function 53 -/
def laws_heldInt64S.l0 : Nat → List Int → Int → Int → Option (Int)
  | 0, _, _, _ => none
  | k + 1, x0, x1, x5 => if x5 < (x0.length : Int) then (if 0 ≤ x5 then (if (rd x0 x5) = x1 then (laws_heldInt64S.l0 k x0 (wrap64 (x1 + 1)) (wrap64 (x5 + 1))) else (some (-1))) else (none)) else (some x1)
def laws_heldInt64S.f (k : Nat) (l0 : List Int) (a1 : Int) : Option (Int) := laws_heldInt64S.l0 k l0 a1 0

/-! ### laws_heldIntsResult: function 24 -/
def laws_heldIntsResult.f (k : Nat) (a0_0 : Int) (l0_1 : List Int) (a1 : Int) : Option (Int) := (laws_heldInt64S.f k l0_1 a1).bind fun t275 => (if t275 < 0 then (some (-1)) else (some t275))

/-! ### spec_l4All: function 54 -/
-- NEEDS Derived.Test.YtdhdgkonghefeaaLb
def kidsAll (f : Int → Option (List Int)) : List Int → List Int → Option (List Int)
  | [], acc => some acc
  | d :: ds, acc => (f d).bind fun l => kidsAll f ds (acc ++ l)
def allW (nodes : List S58) : Nat → Int → Option (List Int)
  | 0, _ => none
  | k + 1, at_ => if (nodes.getD at_.toNat z58).f0 = true then some (nodes.getD at_.toNat z58).f1 else kidsAll (allW nodes k) (nodes.getD at_.toNat z58).f2 []
def spec_l4All.f (s0_0 : Int) (s0_1 : List S58) (a1 : Int) : Option (List Int) := if treeF s0_0 s0_1 = 0 ∧ 0 ≤ a1 ∧ a1 < (s0_1.length : Int) then (allW s0_1 61 a1).bind fun p => if p.length ≤ 100000 then some p else none else none


/-! ### spec_KeysIn: function 25 -/
def spec_KeysIn.l0 : Nat → Int → Int → List Int → Int → Int → List Int → Option (Int × List Int)
  | 0, _, _, _, _, _, _ => none
  | k + 1, x1, x2, x9, x10, x280000, x280001 => if x10 < (x9.length : Int) then (if 0 ≤ x10 then ((spec_l1In.f (rd x9 x10) x1 x2).bind fun t284 => (if t284 = true then (if x280001.length < 17592186044416 then (spec_KeysIn.l0 k x1 x2 x9 (wrap64 (x10 + 1)) x280000 (x280001 ++ [rd x9 x10])) else (none)) else (spec_KeysIn.l0 k x1 x2 x9 (wrap64 (x10 + 1)) x280000 x280001))) else (none)) else (some (x280000, x280001))
def spec_KeysIn.f (k : Nat) (a0_0 : Int) (l0_1 : List (S58)) (a1 : Int) (a2 : Int) : Option (Int × List Int) := (spec_TreeFault.f a0_0 l0_1).bind fun t278 => (if t278 = 0 then ((spec_l4All.f a0_0 l0_1 a0_0).bind fun t280 => (spec_KeysIn.l0 k a1 a2 t280 0 0 ([] : List Int))) else (some (t278, ([] : List Int))))

/-! ### slices_Sort_int64: function 56 -/
-- NEEDS Derived.Test.YtdhdgkonghefeaaLb
def sortI (l : List Int) : List Int := l.mergeSort fun x y => decide (x ≤ y)
def slices_Sort_int64.f (l0 : List Int) : Option (List Int) := if l0.length < 4611686018427387904 then some (sortI l0) else none

/-! ### impl_KeysIn: function 26 -/
mutual
def impl_KeysIn.l0 : Nat → Int → Int → List Int → List (S58) → Int → Int → Option (Int × List Int)
  | 0, _, _, _, _, _, _ => none
  | k + 1, x1, x2, x8, x21, x22, x23 => if x23 < x22 then (if 0 ≤ x23 then (if x23 < (x21.length : Int) then (impl_KeysIn.l1 k x1 x2 x8 x21 x22 x23 ((rd_T58 x21 x23).f1) (((rd_T58 x21 x23).f1).length : Int) 0 ((rd_T58 x21 x23).f0) ((rd_T58 x21 x23).f1) ((rd_T58 x21 x23).f2)) else (none)) else (none)) else ((slices_Sort_int64.f x8).bind fun t295 => (some (0, t295)))
def impl_KeysIn.l1 : Nat → Int → Int → List Int → List (S58) → Int → Int → List Int → Int → Int → Bool → List Int → List Int → Option (Int × List Int)
  | 0, _, _, _, _, _, _, _, _, _, _, _, _ => none
  | k + 1, x1, x2, x8, x21, x22, x23, x28, x29, x30, x298000, x298001, x298002 => if x30 < x29 then (if 0 ≤ x30 then (if x30 < (x28.length : Int) then (if x298000 = true then ((impl_within.f (rd x28 x30) x1 x2).bind fun t299 => (if t299 = true then (if x8.length < 17592186044416 then (impl_KeysIn.l1 k x1 x2 (x8 ++ [rd x28 x30]) x21 x22 x23 x28 x29 (wrap64 (x30 + 1)) x298000 x298001 x298002) else (none)) else (impl_KeysIn.l1 k x1 x2 x8 x21 x22 x23 x28 x29 (wrap64 (x30 + 1)) x298000 x298001 x298002))) else (impl_KeysIn.l1 k x1 x2 x8 x21 x22 x23 x28 x29 (wrap64 (x30 + 1)) x298000 x298001 x298002)) else (none)) else (none)) else (impl_KeysIn.l0 k x1 x2 x8 x21 x22 (wrap64 (x23 + 1)))
end
def impl_KeysIn.f (k : Nat) (a0_0 : Int) (l0_1 : List (S58)) (a1 : Int) (a2 : Int) : Option (Int × List Int) := (impl_TreeFault.f a0_0 l0_1).bind fun t291 => (if t291 = 0 then (impl_KeysIn.l0 k a1 a2 (([] : List Int)) l0_1 (l0_1.length : Int) 0) else (some (t291, ([] : List Int))))

/-! ### laws_FnExactTreeFault: function 3 -/
def laws_FnExactTreeFault.f (k : Nat) (a0_0 : Int) (l0_1 : List (S89)) : Option (Bool) := (laws_szTree.f k a0_0 l0_1 1048576).bind fun t161 => (if t161 < 0 then (some true) else ((laws_toTree.f k a0_0 l0_1).bind fun bt162 => ((spec_TreeFault.f bt162.1 bt162.2).bind fun t166 => ((laws_toTree.f k a0_0 l0_1).bind fun bt167 => ((impl_TreeFault.f bt167.1 bt167.2).bind fun t172 => (if t172 = t166 then ((laws_toTree.f k a0_0 l0_1).bind fun bt173 => ((laws_eqTree.f k bt167.1 bt167.2 bt173.1 bt173.2).bind fun t177 => (if t177 = true then (some true) else (some false)))) else (some false)))))))

/-! ### spec_HasKey: function 14 -/
def spec_HasKey.f (a0_0 : Int) (l0_1 : List (S58)) (a1 : Int) : Option (Bool) := (spec_TreeFault.f a0_0 l0_1).bind fun t180 => (if t180 = 0 then ((spec_l4Has.f a0_0 l0_1 a1).bind fun t181 => (some t181)) else (some false))

/-! ### laws_FnExactHasKey: function 4 -/
def laws_FnExactHasKey.f (k : Nat) (a0_0 : Int) (l0_1 : List (S89)) (a1 : Int) : Option (Bool) := (laws_szTree.f k a0_0 l0_1 1048576).bind fun t197 => (if t197 < 0 then (some true) else ((laws_toTree.f k a0_0 l0_1).bind fun bt198 => ((spec_HasKey.f bt198.1 bt198.2 a1).bind fun t202 => ((laws_toTree.f k a0_0 l0_1).bind fun bt203 => ((impl_HasKey.f k bt203.1 bt203.2 a1).bind fun t208 => (if (t208 != t202) = true then (some false) else ((laws_toTree.f k a0_0 l0_1).bind fun bt209 => ((laws_eqTree.f k bt203.1 bt203.2 bt209.1 bt209.2).bind fun t213 => (if t213 = true then (some true) else (some false))))))))))

/-! ### spec_DepthOf: function 16 -/
def spec_DepthOf.f (a0_0 : Int) (l0_1 : List (S58)) : Option (Int × Int) := (spec_TreeFault.f a0_0 l0_1).bind fun t216 => (if t216 = 0 then ((spec_l4Path.f a0_0 l0_1 0).bind fun t217 => (some (0, (t217.length : Int)))) else (some (t216, 0)))

/-! ### impl_DepthOf: function 17 -/
def impl_DepthOf.f (k : Nat) (a0_0 : Int) (l0_1 : List (S58)) : Option (Int × Int) := (impl_TreeFault.f a0_0 l0_1).bind fun t222 => (if t222 = 0 then ((impl_Tree_path.f k a0_0 l0_1 0).bind fun t223 => (some (0, (t223.length : Int)))) else (some (t222, 0)))

/-! ### laws_eqIntResult: function 18 -/
def laws_eqIntResult.f (a0_0 : Int) (a0_1 : Int) (a1_0 : Int) (a1_1 : Int) : Option (Bool) := if a0_0 = a1_0 then (if a0_1 = a1_1 then (some true) else (some false)) else (some false)

/-! ### laws_FnExactDepthOf: function 5 -/
def laws_FnExactDepthOf.f (k : Nat) (a0_0 : Int) (l0_1 : List (S89)) : Option (Bool) := (laws_szTree.f k a0_0 l0_1 1048576).bind fun t229 => (if t229 < 0 then (some true) else ((laws_toTree.f k a0_0 l0_1).bind fun bt230 => ((spec_DepthOf.f bt230.1 bt230.2).bind fun bt234 => ((laws_toTree.f k a0_0 l0_1).bind fun bt237 => ((impl_DepthOf.f k bt237.1 bt237.2).bind fun bt242 => ((laws_eqIntResult.f bt242.1 bt242.2 bt234.1 bt234.2).bind fun t245 => (if t245 = true then ((laws_toTree.f k a0_0 l0_1).bind fun bt246 => ((laws_eqTree.f k bt237.1 bt237.2 bt246.1 bt246.2).bind fun t250 => (if t250 = true then (some true) else (some false)))) else (some false))))))))

/-! ### spec_PathTo: function 19 -/
def spec_PathTo.f (a0_0 : Int) (l0_1 : List (S58)) (a1 : Int) : Option (Int × List Int) := (spec_TreeFault.f a0_0 l0_1).bind fun t253 => (if t253 = 0 then ((spec_l4Key.f a1).bind fun t254 => (if t254 = true then ((spec_l4Path.f a0_0 l0_1 a1).bind fun t255 => (some (0, t255))) else (some (3, ([] : List Int))))) else (some (t253, ([] : List Int))))

/-! ### impl_PathTo: function 20 -/
def impl_PathTo.j0 : Nat → Int → Int → Bool → Int → List (S58) → Option (Int × List Int)
  | 0, _, _, _, _, _ => none
  | k + 1, x1, x5, x14, x260000, x260001 => if x14 = true then (some (3, ([] : List Int))) else (if x5 = 0 then ((impl_Tree_path.f k x260000 x260001 x1).bind fun t263 => (some (0, t263))) else (some (x5, ([] : List Int))))
def impl_PathTo.f (k : Nat) (a0_0 : Int) (l0_1 : List (S58)) (a1 : Int) : Option (Int × List Int) := (impl_TreeFault.f a0_0 l0_1).bind fun t261 => (if t261 = 0 then ((impl_isTreeKey.f a1).bind fun t262 => (impl_PathTo.j0 k a1 t261 (!t262) a0_0 l0_1)) else (impl_PathTo.j0 k a1 t261 false a0_0 l0_1))

/-! ### laws_FnExactPathTo: function 6 -/
-- NEEDS Derived.Test.YtdhdgkonghefeaaLb
/-- The law, told once for all that is computed twice. -/
def laws_FnExactPathTo.f (k : Nat) (a0_0 : Int) (l0_1 : List S89) (a1 : Int) : Option Bool :=
  (laws_szTree.f k a0_0 l0_1 1048576).bind fun t => if t < 0 then some true else
  (laws_toTree.f k a0_0 l0_1).bind fun x =>
  (spec_PathTo.f x.1 x.2 a1).bind fun s => (impl_PathTo.f k x.1 x.2 a1).bind fun g =>
  (laws_eqIntsResult.f k g.1 g.2 s.1 s.2).bind fun q1 => if q1 = true then
    (laws_eqTree.f k x.1 x.2 x.1 x.2).bind fun q2 => if q2 = true then
      (laws_markTree.f k x.1 x.2 1).bind fun m => if m.1 < 0 then some false else
      (laws_markIntsResult.f k g.1 g.2 1).bind fun n => (laws_heldIntsResult.f k g.1 n.2 1).bind fun q3 => if q3 < 0 then some false else if q3 = n.1 then some true else some false
    else some false
  else some false


end Go.Proofs.Ytdhdgkonghefeaa.P
