-- Printed by this session's own program over the kit's print (wip/tools/mp.py). Not trusted: Lean checks it.
import Derived.Test.YtlabafjldndcgaaP0
import Derived.Test.YtlabafjldndcgaaLb
namespace Go.Proofs.Ytlabafjldndcgaa.P
open Go.RowKit Go.Proofs.YtlabafjldndcgaaW.PrintWords Go.Proofs.YtlabafjldndcgaaW.PrintLast Go.Proofs.YtlabafjldndcgaaW.PrintMore
attribute [local go_sem] max2_int min2_int max_two min_two max_three min_three max_four min_four   -- for this text's walks alone
set_option linter.unusedVariables false
set_option linter.unusedSimpArgs false

/-! ### laws_szVersionS: function 13 -/
def laws_szVersionS.f (l0 : List (S61)) (a1 : Int) : Option (Int) := if (wrap64 (a1 - (l0.length : Int))) < 0 then (some (-1)) else (some (wrap64 (a1 - (l0.length : Int))))

/-! ### spec_l1In: function 56 -/
def spec_l1In.f (a0 : Int) (a1 : Int) (a2 : Int) : Option (Bool) := if a0 ≥ a1 then (some (decide (a0 ≤ a2))) else (some false)

/-! ### spec_l5Txn: function 41 -/
def spec_l5Txn.f (a0 : Int) : Option (Bool) := (spec_l1In.f a0 1 999).bind fun t101 => (some t101)

/-! ### spec_l5At: function 42 -/
def spec_l5At.f (a0 : Int) : Option (Bool) := (spec_l1In.f a0 1 1000000).bind fun t102 => (some t102)

/-! ### spec_l1Value: function 43 -/
def spec_l1Value.f (a0 : Int) : Option (Bool) := (spec_l1In.f a0 0 9999).bind fun t103 => (some t103)

/-! ### spec_ChainFault: function 14 -/
mutual
def spec_ChainFault.l0 : Nat → List (S58) → Int → Option (Int)
  | 0, _, _ => none
  | k + 1, x0, x3 => if x3 < (x0.length : Int) then (if 0 ≤ x3 then ((spec_l5Txn.f ((rd_T58 x0 x3).f0)).bind fun t106 => (if t106 = true then (if ((rd_T58 x0 x3).f1) = 0 then ((spec_l1Value.f ((rd_T58 x0 x3).f3)).bind fun t107 => (spec_ChainFault.j1 k x0 x3 (!t107) ((rd_T58 x0 x3).f0) ((rd_T58 x0 x3).f1) ((rd_T58 x0 x3).f2) ((rd_T58 x0 x3).f3))) else ((spec_l5At.f ((rd_T58 x0 x3).f1)).bind fun t108 => (if t108 = true then ((spec_l1Value.f ((rd_T58 x0 x3).f3)).bind fun t109 => (spec_ChainFault.j1 k x0 x3 (!t109) ((rd_T58 x0 x3).f0) ((rd_T58 x0 x3).f1) ((rd_T58 x0 x3).f2) ((rd_T58 x0 x3).f3))) else (spec_ChainFault.j1 k x0 x3 true ((rd_T58 x0 x3).f0) ((rd_T58 x0 x3).f1) ((rd_T58 x0 x3).f2) ((rd_T58 x0 x3).f3))))) else (spec_ChainFault.j1 k x0 x3 true ((rd_T58 x0 x3).f0) ((rd_T58 x0 x3).f1) ((rd_T58 x0 x3).f2) ((rd_T58 x0 x3).f3)))) else (none)) else (some 0)
def spec_ChainFault.j1 : Nat → List (S58) → Int → Bool → Int → Int → Bool → Int → Option (Int)
  | 0, _, _, _, _, _, _, _ => none
  | k + 1, x0, x3, x38, x106000, x106001, x106002, x106003 => if x38 = true then (some 3) else (if x106002 = true then (if x106003 = 0 then (if x106001 = 0 then (if x3 > 0 then (some 1) else (spec_ChainFault.l0 k x0 (wrap64 (x3 + 1)))) else (if x3 > 0 then (if 0 ≤ (wrap64 (x3 - 1)) then (if (wrap64 (x3 - 1)) < (x0.length : Int) then (if ((rd_T58 x0 (wrap64 (x3 - 1))).f1) = 0 then (spec_ChainFault.l0 k x0 (wrap64 (x3 + 1))) else (if x106001 ≥ ((rd_T58 x0 (wrap64 (x3 - 1))).f1) then (some 1) else (spec_ChainFault.l0 k x0 (wrap64 (x3 + 1))))) else (none)) else (none)) else (spec_ChainFault.l0 k x0 (wrap64 (x3 + 1))))) else (some 1)) else (if x106001 = 0 then (if x3 > 0 then (some 1) else (spec_ChainFault.l0 k x0 (wrap64 (x3 + 1)))) else (if x3 > 0 then (if 0 ≤ (wrap64 (x3 - 1)) then (if (wrap64 (x3 - 1)) < (x0.length : Int) then (if ((rd_T58 x0 (wrap64 (x3 - 1))).f1) = 0 then (spec_ChainFault.l0 k x0 (wrap64 (x3 + 1))) else (if x106001 ≥ ((rd_T58 x0 (wrap64 (x3 - 1))).f1) then (some 1) else (spec_ChainFault.l0 k x0 (wrap64 (x3 + 1))))) else (none)) else (none)) else (spec_ChainFault.l0 k x0 (wrap64 (x3 + 1))))))
end
def spec_ChainFault.f (k : Nat) (l0 : List (S58)) : Option (Int) := if (l0.length : Int) > 12 then (some 2) else (spec_ChainFault.l0 k l0 0)

/-! ### laws_toVersion: function 44 -/
def laws_toVersion.f (a0_0 : Int) (a0_1 : Int) (a0_2 : Bool) (a0_3 : Int) : Option (Int × Int × Bool × Int) := some (a0_0, a0_1, a0_2, a0_3)

/-! ### laws_toVersionS: function 15 -/
def laws_toVersionS.l0 : Nat → List (S61) → List (S58) → Int → Option ((List (S58)))
  | 0, _, _, _ => none
  | k + 1, x0, x3, x4 => if x4 < (x0.length : Int) then (if 0 ≤ x4 then ((laws_toVersion.f ((rd_T61 x0 x4).f0) ((rd_T61 x0 x4).f1) ((rd_T61 x0 x4).f2) ((rd_T61 x0 x4).f3)).bind fun bt121 => (if x4 < (x3.length : Int) then (laws_toVersionS.l0 k x0 (x3.set (x4 : Int).toNat (⟨bt121.1, bt121.2.1, bt121.2.2.1, bt121.2.2.2⟩ : S58)) (wrap64 (x4 + 1))) else (none))) else (none)) else (some x3)
def laws_toVersionS.f (k : Nat) (l0 : List (S61)) : Option ((List (S58))) := if 0 ≤ (l0.length : Int) then (if ((l0.length : Int) : Int).toNat ≤ 8796093022208 then (laws_toVersionS.l0 k l0 (List.replicate ((l0.length : Int) : Int).toNat z58) 0) else (none)) else (none)

/-! ### impl_within: function 63 -/
def impl_within.f (a0 : Int) (a1 : Int) (a2 : Int) : Option (Bool) := if a1 ≤ a0 then (some (decide (a0 ≤ a2))) else (some false)

/-! ### impl_isTxn: function 45 -/
def impl_isTxn.f (a0 : Int) : Option (Bool) := (impl_within.f a0 1 999).bind fun t126 => (some t126)

/-! ### impl_isLsn: function 46 -/
def impl_isLsn.f (a0 : Int) : Option (Bool) := (impl_within.f a0 0 1000000).bind fun t127 => (some t127)

/-! ### impl_isValue: function 47 -/
def impl_isValue.f (a0 : Int) : Option (Bool) := (impl_within.f a0 0 9999).bind fun t128 => (some t128)

/-! ### impl_ChainFault: function 16 -/
mutual
def impl_ChainFault.l0 : Nat → List (S58) → List (S58) → Int → Int → Option (Int)
  | 0, _, _, _, _ => none
  | k + 1, x0, x8, x9, x10 => if x10 < x9 then (if 0 ≤ x10 then (if x10 < (x8.length : Int) then ((impl_isTxn.f ((rd_T58 x8 x10).f0)).bind fun t131 => (if t131 = true then ((impl_isLsn.f ((rd_T58 x8 x10).f1)).bind fun t132 => (if t132 = true then ((impl_isValue.f ((rd_T58 x8 x10).f3)).bind fun t133 => (impl_ChainFault.j1 k x0 x10 x8 x9 x10 (!t133) ((rd_T58 x8 x10).f0) ((rd_T58 x8 x10).f1) ((rd_T58 x8 x10).f2) ((rd_T58 x8 x10).f3))) else (impl_ChainFault.j1 k x0 x10 x8 x9 x10 true ((rd_T58 x8 x10).f0) ((rd_T58 x8 x10).f1) ((rd_T58 x8 x10).f2) ((rd_T58 x8 x10).f3)))) else (impl_ChainFault.j1 k x0 x10 x8 x9 x10 true ((rd_T58 x8 x10).f0) ((rd_T58 x8 x10).f1) ((rd_T58 x8 x10).f2) ((rd_T58 x8 x10).f3)))) else (none)) else (none)) else (some 0)
def impl_ChainFault.j1 : Nat → List (S58) → Int → List (S58) → Int → Int → Bool → Int → Int → Bool → Int → Option (Int)
  | 0, _, _, _, _, _, _, _, _, _, _ => none
  | k + 1, x0, x3, x8, x9, x10, x15, x131000, x131001, x131002, x131003 => if x15 = true then (some 3) else (if x131002 = true then (impl_ChainFault.j2 k x0 x3 x8 x9 x10 (x131003 != 0) x131000 x131001 x131002 x131003) else (impl_ChainFault.j2 k x0 x3 x8 x9 x10 false x131000 x131001 x131002 x131003))
def impl_ChainFault.j2 : Nat → List (S58) → Int → List (S58) → Int → Int → Bool → Int → Int → Bool → Int → Option (Int)
  | 0, _, _, _, _, _, _, _, _, _, _ => none
  | k + 1, x0, x3, x8, x9, x10, x32, x131000, x131001, x131002, x131003 => if x32 = true then (some 1) else (if x131001 = 0 then (impl_ChainFault.j3 k x0 x3 x8 x9 x10 (decide (x3 > 0)) x131000 x131001 x131002 x131003) else (impl_ChainFault.j3 k x0 x3 x8 x9 x10 false x131000 x131001 x131002 x131003))
def impl_ChainFault.j3 : Nat → List (S58) → Int → List (S58) → Int → Int → Bool → Int → Int → Bool → Int → Option (Int)
  | 0, _, _, _, _, _, _, _, _, _, _ => none
  | k + 1, x0, x3, x8, x9, x10, x32, x131000, x131001, x131002, x131003 => if x32 = true then (some 1) else (if x3 > 0 then (if 0 ≤ (wrap64 (x3 - 1)) then (if (wrap64 (x3 - 1)) < (x0.length : Int) then (if ((rd_T58 x0 (wrap64 (x3 - 1))).f1) = 0 then (impl_ChainFault.l0 k x0 x8 x9 (wrap64 (x10 + 1))) else (if x131001 ≥ ((rd_T58 x0 (wrap64 (x3 - 1))).f1) then (some 1) else (impl_ChainFault.l0 k x0 x8 x9 (wrap64 (x10 + 1))))) else (none)) else (none)) else (impl_ChainFault.l0 k x0 x8 x9 (wrap64 (x10 + 1))))
end
def impl_ChainFault.f (k : Nat) (l0 : List (S58)) : Option (Int) := if (l0.length : Int) > 12 then (some 2) else (impl_ChainFault.l0 k l0 l0 (l0.length : Int) 0)

/-! ### laws_eqVersion: function 48 -/
def laws_eqVersion.f (a0_0 : Int) (a0_1 : Int) (a0_2 : Bool) (a0_3 : Int) (a1_0 : Int) (a1_1 : Int) (a1_2 : Bool) (a1_3 : Int) : Option (Bool) := if a0_0 = a1_0 then (if a0_1 = a1_1 then (if (a0_2 != a1_2) = true then (some false) else (if a0_3 = a1_3 then (some true) else (some false))) else (some false)) else (some false)

/-! ### laws_eqVersionS: function 17 -/
def laws_eqVersionS.l0 : Nat → List (S58) → List (S58) → Int → Option (Bool)
  | 0, _, _, _ => none
  | k + 1, x0, x1, x5 => if x5 < (x0.length : Int) then (if 0 ≤ x5 then (if x5 < (x1.length : Int) then ((laws_eqVersion.f ((rd_T58 x0 x5).f0) ((rd_T58 x0 x5).f1) ((rd_T58 x0 x5).f2) ((rd_T58 x0 x5).f3) ((rd_T58 x1 x5).f0) ((rd_T58 x1 x5).f1) ((rd_T58 x1 x5).f2) ((rd_T58 x1 x5).f3)).bind fun t140 => (if t140 = true then (laws_eqVersionS.l0 k x0 x1 (wrap64 (x5 + 1))) else (some false))) else (none)) else (none)) else (some true)
def laws_eqVersionS.f (k : Nat) (l0 : List (S58)) (l1 : List (S58)) : Option (Bool) := if (l0.length : Int) = (l1.length : Int) then (laws_eqVersionS.l0 k l0 l1 0) else (some false)

/-! ### laws_FnExactChainFault: function 3 -/
def laws_FnExactChainFault.f (k : Nat) (l0 : List (S61)) : Option (Bool) := (laws_szVersionS.f l0 1048576).bind fun t141 => (if t141 < 0 then (some true) else ((laws_toVersionS.f k l0).bind fun t142 => ((spec_ChainFault.f k t142).bind fun t145 => ((laws_toVersionS.f k l0).bind fun t146 => ((impl_ChainFault.f k t146).bind fun t149 => (if t149 = t145 then ((laws_toVersionS.f k l0).bind fun t150 => ((laws_eqVersionS.f k t146 t150).bind fun t153 => (if t153 = true then (some true) else (some false)))) else (some false)))))))

/-! ### spec_l5Writer: function 49 -/
def spec_l5Writer.f (l0 : List (S58)) : Option (Int) := if (l0.length : Int) > 0 then (if 0 < (l0.length : Int) then (if ((rd_T58 l0 0).f1) = 0 then (some ((rd_T58 l0 0).f0)) else (some 0)) else (none)) else (some 0)

/-! ### spec_WriterOf: function 18 -/
def spec_WriterOf.f (k : Nat) (l0 : List (S58)) : Option (Int × Int) := (spec_ChainFault.f k l0).bind fun t157 => (if t157 = 0 then ((spec_l5Writer.f l0).bind fun t158 => (if t158 = 0 then (some (4, 0)) else (some (0, t158)))) else (some (t157, 0)))

/-! ### impl_WriterOf: function 19 -/
def impl_WriterOf.f (k : Nat) (l0 : List (S58)) : Option (Int × Int) := (impl_ChainFault.f k l0).bind fun t160 => (if t160 = 0 then (if (l0.length : Int) = 0 then (some (4, 0)) else (if 0 < (l0.length : Int) then (if ((rd_T58 l0 0).f1) = 0 then (some (0, (rd_T58 l0 0).f0)) else (some (4, 0))) else (none))) else (some (t160, 0)))

/-! ### laws_eqIntResult: function 20 -/
def laws_eqIntResult.f (a0_0 : Int) (a0_1 : Int) (a1_0 : Int) (a1_1 : Int) : Option (Bool) := if a0_0 = a1_0 then (if a0_1 = a1_1 then (some true) else (some false)) else (some false)

/-! ### laws_FnExactWriterOf: function 4 -/
def laws_FnExactWriterOf.f (k : Nat) (l0 : List (S61)) : Option (Bool) := (laws_szVersionS.f l0 1048576).bind fun t165 => (if t165 < 0 then (some true) else ((laws_toVersionS.f k l0).bind fun t166 => ((spec_WriterOf.f k t166).bind fun bt169 => ((laws_toVersionS.f k l0).bind fun t172 => ((impl_WriterOf.f k t172).bind fun bt175 => ((laws_eqIntResult.f bt175.1 bt175.2 bt169.1 bt169.2).bind fun t178 => (if t178 = true then ((laws_toVersionS.f k l0).bind fun t179 => ((laws_eqVersionS.f k t172 t179).bind fun t182 => (if t182 = true then (some true) else (some false)))) else (some false))))))))

/-! ### spec_l5View: function 72 -/
def spec_l5View.f (a0_0 : Int) (a0_1 : Int) : Option (Bool) := (spec_l1In.f a0_0 0 1000000).bind fun t184 => (if t184 = true then ((spec_l1In.f a0_1 0 999).bind fun t185 => (some t185)) else (some false))

/-! ### spec_l5Asked: function 50 -/
def spec_l5Asked.f (k : Nat) (l0 : List (S58)) (a1_0 : Int) (a1_1 : Int) : Option (Int) := (spec_ChainFault.f k l0).bind fun t187 => (if t187 = 0 then ((spec_l5View.f a1_0 a1_1).bind fun t188 => (if t188 = true then (some 0) else (some 3))) else (some t187))

/-! ### spec_l5May: function 51 -/
def spec_l5May.f (l0 : List (S58)) (a1_0 : Int) (a1_1 : Int) : Option (Bool) := if (l0.length : Int) = 0 then (some true) else (if 0 < (l0.length : Int) then (if ((rd_T58 l0 0).f1) = 0 then (some (((rd_T58 l0 0).f0) == a1_1)) else (some (decide (((rd_T58 l0 0).f1) ≤ a1_0)))) else (none))

/-! ### spec_MayWrite: function 21 -/
def spec_MayWrite.f (k : Nat) (l0 : List (S58)) (a1_0 : Int) (a1_1 : Int) : Option (Int) := (spec_l5Asked.f k l0 a1_0 a1_1).bind fun t194 => (if t194 = 0 then (if a1_1 = 0 then (some 3) else ((spec_l5May.f l0 a1_0 a1_1).bind fun t195 => (if t195 = true then (some 0) else (some 9)))) else (some t194))

/-! ### laws_toView: function 22 -/
def laws_toView.f (a0_0 : Int) (a0_1 : Int) : Option (Int × Int) := some (a0_0, a0_1)

/-! ### impl_viewCode: function 52 -/
def impl_viewCode.f (k : Nat) (l0 : List (S58)) (a1_0 : Int) (a1_1 : Int) : Option (Int) := (impl_ChainFault.f k l0).bind fun t200 => (if t200 = 0 then ((impl_isLsn.f a1_0).bind fun t201 => (if t201 = true then ((impl_within.f a1_1 0 999).bind fun t202 => (if t202 = true then (some t200) else (some 3))) else (some 3))) else (some t200))

/-! ### impl_mayWrite: function 53 -/
def impl_mayWrite.f (l0 : List (S58)) (a1_0 : Int) (a1_1 : Int) : Option (Int) := if (l0.length : Int) > 0 then (if 0 < (l0.length : Int) then (if ((rd_T58 l0 0).f1) = 0 then (if ((rd_T58 l0 0).f0) = a1_1 then (if ((rd_T58 l0 0).f1) > a1_0 then (some 9) else (some 0)) else (some 9)) else (if ((rd_T58 l0 0).f1) > a1_0 then (some 9) else (some 0))) else (none)) else (some 0)

/-! ### impl_MayWrite: function 23 -/
def impl_MayWrite.j0 : Nat → List (S58) → Int → Bool → Int → Int → Option (Int)
  | 0, _, _, _, _, _ => none
  | k + 1, x0, x5, x15, x209000, x209001 => if x15 = true then (some 3) else (if x5 = 0 then ((impl_mayWrite.f x0 x209000 x209001).bind fun t210 => (some t210)) else (some x5))
def impl_MayWrite.f (k : Nat) (l0 : List (S58)) (a1_0 : Int) (a1_1 : Int) : Option (Int) := (impl_viewCode.f k l0 a1_0 a1_1).bind fun t209 => (if t209 = 0 then (impl_MayWrite.j0 k l0 t209 (a1_1 == 0) a1_0 a1_1) else (impl_MayWrite.j0 k l0 t209 false a1_0 a1_1))

/-! ### laws_FnExactMayWrite: function 5 -/
def laws_FnExactMayWrite.f (k : Nat) (l0 : List (S61)) (a1_0 : Int) (a1_1 : Int) : Option (Bool) := (laws_szVersionS.f l0 1048576).bind fun t212 => (if t212 < 0 then (some true) else ((laws_toVersionS.f k l0).bind fun t213 => ((laws_toView.f a1_0 a1_1).bind fun bt216 => ((spec_MayWrite.f k t213 bt216.1 bt216.2).bind fun t218 => ((laws_toVersionS.f k l0).bind fun t219 => ((laws_toView.f a1_0 a1_1).bind fun bt222 => ((impl_MayWrite.f k t219 bt222.1 bt222.2).bind fun t224 => (if t224 = t218 then ((laws_toVersionS.f k l0).bind fun t225 => ((laws_eqVersionS.f k t219 t225).bind fun t228 => (if t228 = true then (some true) else (some false)))) else (some false)))))))))

/-! ### spec_l5Seen: function 54 -/
mutual
def spec_l5Seen.l0 : Nat → List (S58) → Int → Int → Int → Option (Int)
  | 0, _, _, _, _ => none
  | k + 1, x0, x5, x230000, x230001 => if x5 < (x0.length : Int) then (if 0 ≤ x5 then (if ((rd_T58 x0 x5).f1) = 0 then (if ((rd_T58 x0 x5).f0) = x230001 then (spec_l5Seen.j1 k x0 x5 true x230000 x230001 ((rd_T58 x0 x5).f0) ((rd_T58 x0 x5).f1) ((rd_T58 x0 x5).f2) ((rd_T58 x0 x5).f3)) else (spec_l5Seen.j1 k x0 x5 false x230000 x230001 ((rd_T58 x0 x5).f0) ((rd_T58 x0 x5).f1) ((rd_T58 x0 x5).f2) ((rd_T58 x0 x5).f3))) else (spec_l5Seen.j1 k x0 x5 (decide (((rd_T58 x0 x5).f1) ≤ x230000)) x230000 x230001 ((rd_T58 x0 x5).f0) ((rd_T58 x0 x5).f1) ((rd_T58 x0 x5).f2) ((rd_T58 x0 x5).f3))) else (none)) else (some (-1))
def spec_l5Seen.j1 : Nat → List (S58) → Int → Bool → Int → Int → Int → Int → Bool → Int → Option (Int)
  | 0, _, _, _, _, _, _, _, _, _ => none
  | k + 1, x0, x5, x38, x230000, x230001, x232000, x232001, x232002, x232003 => if x38 = true then (if x232002 = true then (some (-1)) else (some x5)) else (spec_l5Seen.l0 k x0 (wrap64 (x5 + 1)) x230000 x230001)
end
def spec_l5Seen.f (k : Nat) (l0 : List (S58)) (a1_0 : Int) (a1_1 : Int) : Option (Int) := spec_l5Seen.l0 k l0 0 a1_0 a1_1

/-! ### spec_SeenIn: function 24 -/
def spec_SeenIn.f (k : Nat) (l0 : List (S58)) (a1_0 : Int) (a1_1 : Int) : Option (Int × Int) := (spec_l5Asked.f k l0 a1_0 a1_1).bind fun t234 => (if t234 = 0 then ((spec_l5Seen.f k l0 a1_0 a1_1).bind fun t235 => (if t235 < 0 then (some (4, 0)) else (if 0 ≤ t235 then (if t235 < (l0.length : Int) then (some (0, (rd_T58 l0 t235).f3)) else (none)) else (none)))) else (some (t234, 0)))

/-! ### slices_IndexFunc_impl_Version: function 76 -/

/-! ### impl_seen: function 73 -/
-- NEEDS Derived.Test.@N@Lb
/-- What a view sees. -/
def impl_seen.p (at_ own : Int) (x : S58) : Bool := (x.f1 == 0 && x.f0 == own) || (decide (x.f1 > 0) && decide (x.f1 ≤ at_))
def impl_seen.f (l0 : List S58) (a1_0 a1_1 : Int) : Option (Int) := some (Go.Proofs.Ytlabafjldndcgaa.Lb.idx (impl_seen.p a1_0 a1_1) l0)

/-! ### impl_seenValue: function 55 -/
def impl_seenValue.f (l0 : List (S58)) (a1_0 : Int) (a1_1 : Int) : Option (Int × Int) := (impl_seen.f l0 a1_0 a1_1).bind fun t239 => (if t239 < 0 then (some (4, 0)) else (if 0 ≤ t239 then (if t239 < (l0.length : Int) then (if (rd_T58 l0 t239).f2 = true then (some (4, 0)) else (some (0, (rd_T58 l0 t239).f3))) else (none)) else (none)))

/-! ### impl_SeenIn: function 25 -/
def impl_SeenIn.f (k : Nat) (l0 : List (S58)) (a1_0 : Int) (a1_1 : Int) : Option (Int × Int) := (impl_viewCode.f k l0 a1_0 a1_1).bind fun t244 => (if t244 = 0 then ((impl_seenValue.f l0 a1_0 a1_1).bind fun bt245 => (some (bt245.1, bt245.2))) else (some (t244, 0)))

/-! ### laws_FnExactSeenIn: function 6 -/
def laws_FnExactSeenIn.f (k : Nat) (l0 : List (S61)) (a1_0 : Int) (a1_1 : Int) : Option (Bool) := (laws_szVersionS.f l0 1048576).bind fun t248 => (if t248 < 0 then (some true) else ((laws_toVersionS.f k l0).bind fun t249 => ((laws_toView.f a1_0 a1_1).bind fun bt252 => ((spec_SeenIn.f k t249 bt252.1 bt252.2).bind fun bt254 => ((laws_toVersionS.f k l0).bind fun t257 => ((laws_toView.f a1_0 a1_1).bind fun bt260 => ((impl_SeenIn.f k t257 bt260.1 bt260.2).bind fun bt262 => ((laws_eqIntResult.f bt262.1 bt262.2 bt254.1 bt254.2).bind fun t265 => (if t265 = true then ((laws_toVersionS.f k l0).bind fun t266 => ((laws_eqVersionS.f k t257 t266).bind fun t269 => (if t269 = true then (some true) else (some false)))) else (some false))))))))))

/-! ### spec_l5Purge: function 57 -/
def spec_l5Purge.l0 : Nat → List (S58) → Int → List (S58) → Int → Option ((List (S58)))
  | 0, _, _, _, _ => none
  | k + 1, x0, x1, x5, x6 => if x6 < (x0.length : Int) then (if 0 ≤ x6 then (if x5.length < 4398046511104 then ((some (x5 ++ [(⟨(rd_T58 x0 x6).f0, (rd_T58 x0 x6).f1, (rd_T58 x0 x6).f2, (rd_T58 x0 x6).f3⟩ : S58)] : List (S58))).bind fun y274 => (if ((rd_T58 x0 x6).f1) = 0 then (spec_l5Purge.l0 k x0 x1 y274 (wrap64 (x6 + 1))) else (if ((rd_T58 x0 x6).f1) ≤ x1 then (if (y274.length : Int) > 0 then (if 0 ≤ (wrap64 ((y274.length : Int) - 1)) then (if (wrap64 ((y274.length : Int) - 1)) < (y274.length : Int) then (if (rd_T58 y274 (wrap64 ((y274.length : Int) - 1))).f2 = true then (if ((rd_T58 y274 (wrap64 ((y274.length : Int) - 1))).f1) = 0 then (some y274) else (if ((rd_T58 y274 (wrap64 ((y274.length : Int) - 1))).f1) ≤ x1 then (if (wrap64 ((y274.length : Int) - 1)) ≤ (y274.length : Int) then (some (y274.take ((wrap64 ((y274.length : Int) - 1)) : Int).toNat)) else (none)) else (some y274))) else (some y274)) else (none)) else (none)) else (some y274)) else (spec_l5Purge.l0 k x0 x1 y274 (wrap64 (x6 + 1)))))) else (none)) else (none)) else (if (x5.length : Int) > 0 then (if 0 ≤ (wrap64 ((x5.length : Int) - 1)) then (if (wrap64 ((x5.length : Int) - 1)) < (x5.length : Int) then (if (rd_T58 x5 (wrap64 ((x5.length : Int) - 1))).f2 = true then (if ((rd_T58 x5 (wrap64 ((x5.length : Int) - 1))).f1) = 0 then (some x5) else (if ((rd_T58 x5 (wrap64 ((x5.length : Int) - 1))).f1) ≤ x1 then (if (wrap64 ((x5.length : Int) - 1)) ≤ (x5.length : Int) then (some (x5.take ((wrap64 ((x5.length : Int) - 1)) : Int).toNat)) else (none)) else (some x5))) else (some x5)) else (none)) else (none)) else (some x5))
def spec_l5Purge.f (k : Nat) (l0 : List (S58)) (a1 : Int) : Option ((List (S58))) := spec_l5Purge.l0 k l0 a1 (([] : List (S58))) 0

/-! ### spec_PurgeChain: function 26 -/
def spec_PurgeChain.f (k : Nat) (l0 : List (S58)) (a1 : Int) : Option (Int × (List (S58))) := (spec_ChainFault.f k l0).bind fun t292 => (if t292 = 0 then ((spec_l1In.f a1 0 1000000).bind fun t293 => (if t293 = true then ((spec_l5Purge.f k l0 a1).bind fun t294 => (some (0, t294))) else (some (3, ([] : List (S58)))))) else (some (t292, ([] : List (S58)))))

/-! ### impl_purged: function 58 -/
def impl_purged.l0 : Nat → Int → List (S58) → List (S58) → Int → Int → Option ((List (S58)))
  | 0, _, _, _, _, _ => none
  | k + 1, x1, x5, x10, x11, x12 => if x12 < x11 then (if 0 ≤ x12 then (if x12 < (x10.length : Int) then (if x5.length < 4398046511104 then ((some (x5 ++ [(⟨(rd_T58 x10 x12).f0, (rd_T58 x10 x12).f1, (rd_T58 x10 x12).f2, (rd_T58 x10 x12).f3⟩ : S58)] : List (S58))).bind fun y302 => (if ((rd_T58 x10 x12).f1) > 0 then (if ((rd_T58 x10 x12).f1) ≤ x1 then (if (y302.length : Int) > 0 then (if 0 ≤ (wrap64 ((y302.length : Int) - 1)) then (if (wrap64 ((y302.length : Int) - 1)) < (y302.length : Int) then (if (rd_T58 y302 (wrap64 ((y302.length : Int) - 1))).f2 = true then (if ((rd_T58 y302 (wrap64 ((y302.length : Int) - 1))).f1) > 0 then (if ((rd_T58 y302 (wrap64 ((y302.length : Int) - 1))).f1) ≤ x1 then (if (wrap64 ((y302.length : Int) - 1)) ≤ (y302.length : Int) then (some (y302.take ((wrap64 ((y302.length : Int) - 1)) : Int).toNat)) else (none)) else (some y302)) else (some y302)) else (some y302)) else (none)) else (none)) else (some y302)) else (impl_purged.l0 k x1 y302 x10 x11 (wrap64 (x12 + 1)))) else (impl_purged.l0 k x1 y302 x10 x11 (wrap64 (x12 + 1))))) else (none)) else (none)) else (none)) else (if (x5.length : Int) > 0 then (if 0 ≤ (wrap64 ((x5.length : Int) - 1)) then (if (wrap64 ((x5.length : Int) - 1)) < (x5.length : Int) then (if (rd_T58 x5 (wrap64 ((x5.length : Int) - 1))).f2 = true then (if ((rd_T58 x5 (wrap64 ((x5.length : Int) - 1))).f1) > 0 then (if ((rd_T58 x5 (wrap64 ((x5.length : Int) - 1))).f1) ≤ x1 then (if (wrap64 ((x5.length : Int) - 1)) ≤ (x5.length : Int) then (some (x5.take ((wrap64 ((x5.length : Int) - 1)) : Int).toNat)) else (none)) else (some x5)) else (some x5)) else (some x5)) else (none)) else (none)) else (some x5))
def impl_purged.f (k : Nat) (l0 : List (S58)) (a1 : Int) : Option ((List (S58))) := impl_purged.l0 k a1 (([] : List (S58))) l0 (l0.length : Int) 0

/-! ### impl_PurgeChain: function 27 -/
def impl_PurgeChain.j0 : Nat → List (S58) → Int → Int → Bool → Option (Int × (List (S58)))
  | 0, _, _, _, _ => none
  | k + 1, x0, x1, x5, x14 => if x14 = true then (some (3, ([] : List (S58)))) else (if x5 = 0 then ((impl_purged.f k x0 x1).bind fun t320 => (some (0, t320))) else (some (x5, ([] : List (S58)))))
def impl_PurgeChain.f (k : Nat) (l0 : List (S58)) (a1 : Int) : Option (Int × (List (S58))) := (impl_ChainFault.f k l0).bind fun t318 => (if t318 = 0 then ((impl_isLsn.f a1).bind fun t319 => (impl_PurgeChain.j0 k l0 a1 t318 (!t319))) else (impl_PurgeChain.j0 k l0 a1 t318 false))

/-! ### laws_eqChainResult: function 28 -/
def laws_eqChainResult.f (k : Nat) (a0_0 : Int) (l0_1 : List (S58)) (a1_0 : Int) (l1_1 : List (S58)) : Option (Bool) := if a0_0 = a1_0 then ((laws_eqVersionS.f k l0_1 l1_1).bind fun t325 => (if t325 = true then (some true) else (some false))) else (some false)

/-! ### laws_markVersionS: function 29 -/
def laws_markVersionS.l0 : Nat → List (S58) → Int → Int → Option (Int × (List (S58)))
  | 0, _, _, _ => none
  | k + 1, x0, x1, x5 => if x5 < (x0.length : Int) then (if 0 ≤ x5 then ((some (x0.set (x5 : Int).toNat (⟨x1, (rd_T58 x0 x5).f1, (rd_T58 x0 x5).f2, (rd_T58 x0 x5).f3⟩ : S58) : List (S58))).bind fun y326 => ((some (y326.set (x5 : Int).toNat (⟨(rd_T58 y326 x5).f0, wrap64 (x1 + 1), (rd_T58 y326 x5).f2, (rd_T58 y326 x5).f3⟩ : S58) : List (S58))).bind fun y327 => ((some (y327.set (x5 : Int).toNat (⟨(rd_T58 y327 x5).f0, (rd_T58 y327 x5).f1, ((Int.tmod (wrap64 ((wrap64 (x1 + 1)) + 1)) 3) == 0), (rd_T58 y327 x5).f3⟩ : S58) : List (S58))).bind fun y328 => (laws_markVersionS.l0 k (y328.set (x5 : Int).toNat (⟨(rd_T58 y328 x5).f0, (rd_T58 y328 x5).f1, (rd_T58 y328 x5).f2, wrap64 ((wrap64 ((wrap64 (x1 + 1)) + 1)) + 1)⟩ : S58)) (wrap64 ((wrap64 ((wrap64 ((wrap64 (x1 + 1)) + 1)) + 1)) + 1)) (wrap64 (x5 + 1)))))) else (none)) else (some (x1, x0))
def laws_markVersionS.f (k : Nat) (l0 : List (S58)) (a1 : Int) : Option (Int × (List (S58))) := laws_markVersionS.l0 k l0 a1 0

/-! ### laws_markChainResult: function 30 -/
def laws_markChainResult.f (k : Nat) (a0_0 : Int) (l0_1 : List (S58)) (a1 : Int) : Option (Int × (List (S58))) := (laws_markVersionS.f k l0_1 a1).bind fun bt331 => (some (bt331.1, bt331.2))

/-! ### laws_heldVersionS: function 59 -/
def laws_heldVersionS.l0 : Nat → List (S58) → Int → Int → Option (Int)
  | 0, _, _, _ => none
  | k + 1, x0, x1, x5 => if x5 < (x0.length : Int) then (if 0 ≤ x5 then (if ((rd_T58 x0 x5).f0) = x1 then (if ((rd_T58 x0 x5).f1) = (wrap64 (x1 + 1)) then (if (((rd_T58 x0 x5).f2) != ((Int.tmod (wrap64 ((wrap64 (x1 + 1)) + 1)) 3) == 0)) = true then (some (-1)) else (if ((rd_T58 x0 x5).f3) = (wrap64 ((wrap64 ((wrap64 (x1 + 1)) + 1)) + 1)) then (laws_heldVersionS.l0 k x0 (wrap64 ((wrap64 ((wrap64 ((wrap64 (x1 + 1)) + 1)) + 1)) + 1)) (wrap64 (x5 + 1))) else (some (-1)))) else (some (-1))) else (some (-1))) else (none)) else (some x1)
def laws_heldVersionS.f (k : Nat) (l0 : List (S58)) (a1 : Int) : Option (Int) := laws_heldVersionS.l0 k l0 a1 0

/-! ### laws_heldChainResult: function 31 -/
def laws_heldChainResult.f (k : Nat) (a0_0 : Int) (l0_1 : List (S58)) (a1 : Int) : Option (Int) := (laws_heldVersionS.f k l0_1 a1).bind fun t338 => (if t338 < 0 then (some (-1)) else (some t338))

/-! ### laws_FnExactPurgeChain: function 7 -/
def laws_FnExactPurgeChain.j0 : Nat → List (S61) → Int → Bool → Int → List (S58) → Int → List (S58) → Option (Bool)
  | 0, _, _, _, _, _, _, _ => none
  | k + 1, x0, x1, x46, x348000, x348001, x356000, x356001 => if x46 = true then (some false) else ((laws_markChainResult.f k x356000 x356001 1).bind fun bt364 => ((laws_heldChainResult.f k x356000 bt364.2 1).bind fun t366 => (if t366 < 0 then (some false) else (if t366 = bt364.1 then ((laws_toVersionS.f k x0).bind fun t367 => ((impl_PurgeChain.f k t367 x1).bind fun bt370 => ((laws_eqChainResult.f k bt370.1 bt370.2 x348000 x348001).bind fun t375 => (if t375 = true then ((laws_heldChainResult.f k x356000 bt364.2 1).bind fun t376 => (if t376 < 0 then (some false) else (if t376 = bt364.1 then (some true) else (some false)))) else (some false))))) else (some false)))))
def laws_FnExactPurgeChain.f (k : Nat) (l0 : List (S61)) (a1 : Int) : Option (Bool) := (laws_szVersionS.f l0 1048576).bind fun t339 => (if t339 < 0 then (some true) else ((laws_toVersionS.f k l0).bind fun t340 => ((spec_PurgeChain.f k t340 a1).bind fun bt343 => ((laws_toVersionS.f k l0).bind fun t348 => ((impl_PurgeChain.f k t348 a1).bind fun bt351 => ((laws_eqChainResult.f k bt351.1 bt351.2 bt343.1 bt343.2).bind fun t356 => (if t356 = true then ((laws_toVersionS.f k l0).bind fun t357 => ((laws_eqVersionS.f k t348 t357).bind fun t360 => (if t360 = true then ((laws_markVersionS.f k t348 1).bind fun bt361 => (if bt361.1 < 0 then (laws_FnExactPurgeChain.j0 k l0 a1 true bt343.1 bt343.2 bt351.1 bt351.2) else ((laws_eqChainResult.f k bt351.1 bt351.2 bt343.1 bt343.2).bind fun t363 => (laws_FnExactPurgeChain.j0 k l0 a1 (!t363) bt343.1 bt343.2 bt351.1 bt351.2)))) else (some false)))) else (some false))))))))

/-! ### spec_l5Copy: function 60 -/
def spec_l5Copy.f (l0 : List (S58)) : Option ((List (S58))) := (some (([] : List (S58)) : List (S58))).bind fun y377 => (if y377.length + l0.length < 4398046511104 then (some (y377 ++ l0)) else (none))

/-! ### spec_RollChain: function 32 -/
def spec_RollChain.f (k : Nat) (l0 : List (S58)) (a1 : Int) : Option (Int × (List (S58))) := (spec_ChainFault.f k l0).bind fun t384 => (if t384 = 0 then ((spec_l5Txn.f a1).bind fun t385 => (if t385 = true then ((spec_l5Writer.f l0).bind fun t386 => (if t386 = a1 then (if 1 ≤ (l0.length : Int) then ((spec_l5Copy.f (l0.drop 1)).bind fun t391 => (some (0, t391))) else (none)) else (some (4, ([] : List (S58)))))) else (some (3, ([] : List (S58)))))) else (some (t384, ([] : List (S58)))))

/-! ### impl_isOpenOf: function 61 -/
def impl_isOpenOf.f (l0 : List (S58)) (a1 : Int) : Option (Bool) := if (l0.length : Int) > 0 then (if 0 < (l0.length : Int) then (if ((rd_T58 l0 0).f1) = 0 then (some (((rd_T58 l0 0).f0) == a1)) else (some false)) else (none)) else (some false)

/-! ### slices_Clone_impl_Version: function 62 -/
def slices_Clone_impl_Version.f (l0 : List (S58)) : Option ((List (S58))) := (some (([] : List (S58)) : List (S58))).bind fun y396 => (if y396.length + l0.length < 4398046511104 then (some (y396 ++ l0)) else (none))

/-! ### impl_RollChain: function 33 -/
def impl_RollChain.f (k : Nat) (l0 : List (S58)) (a1 : Int) : Option (Int × (List (S58))) := (impl_ChainFault.f k l0).bind fun t403 => (if t403 = 0 then ((impl_isTxn.f a1).bind fun t404 => (if t404 = true then ((impl_isOpenOf.f l0 a1).bind fun t405 => (if t405 = true then (if 1 ≤ (l0.length : Int) then ((slices_Clone_impl_Version.f (l0.drop 1)).bind fun t410 => (some (0, t410))) else (none)) else (some (4, ([] : List (S58)))))) else (some (3, ([] : List (S58)))))) else (some (t403, ([] : List (S58)))))

/-! ### laws_FnExactRollChain: function 8 -/
def laws_FnExactRollChain.j0 : Nat → List (S61) → Int → Bool → Int → List (S58) → Int → List (S58) → Option (Bool)
  | 0, _, _, _, _, _, _, _ => none
  | k + 1, x0, x1, x46, x422000, x422001, x430000, x430001 => if x46 = true then (some false) else ((laws_markChainResult.f k x430000 x430001 1).bind fun bt438 => ((laws_heldChainResult.f k x430000 bt438.2 1).bind fun t440 => (if t440 < 0 then (some false) else (if t440 = bt438.1 then ((laws_toVersionS.f k x0).bind fun t441 => ((impl_RollChain.f k t441 x1).bind fun bt444 => ((laws_eqChainResult.f k bt444.1 bt444.2 x422000 x422001).bind fun t449 => (if t449 = true then ((laws_heldChainResult.f k x430000 bt438.2 1).bind fun t450 => (if t450 < 0 then (some false) else (if t450 = bt438.1 then (some true) else (some false)))) else (some false))))) else (some false)))))
def laws_FnExactRollChain.f (k : Nat) (l0 : List (S61)) (a1 : Int) : Option (Bool) := (laws_szVersionS.f l0 1048576).bind fun t413 => (if t413 < 0 then (some true) else ((laws_toVersionS.f k l0).bind fun t414 => ((spec_RollChain.f k t414 a1).bind fun bt417 => ((laws_toVersionS.f k l0).bind fun t422 => ((impl_RollChain.f k t422 a1).bind fun bt425 => ((laws_eqChainResult.f k bt425.1 bt425.2 bt417.1 bt417.2).bind fun t430 => (if t430 = true then ((laws_toVersionS.f k l0).bind fun t431 => ((laws_eqVersionS.f k t422 t431).bind fun t434 => (if t434 = true then ((laws_markVersionS.f k t422 1).bind fun bt435 => (if bt435.1 < 0 then (laws_FnExactRollChain.j0 k l0 a1 true bt417.1 bt417.2 bt425.1 bt425.2) else ((laws_eqChainResult.f k bt425.1 bt425.2 bt417.1 bt417.2).bind fun t437 => (laws_FnExactRollChain.j0 k l0 a1 (!t437) bt417.1 bt417.2 bt425.1 bt425.2)))) else (some false)))) else (some false))))))))

/-! ### spec_CommitChain: function 34 -/
def spec_CommitChain.j0 : Nat → List (S58) → Int → Int → Bool → Option (Int × (List (S58)))
  | 0, _, _, _, _ => none
  | k + 1, x0, x1, x2, x22 => if x22 = true then (some (3, ([] : List (S58)))) else ((spec_l5Writer.f x0).bind fun t455 => (if t455 = x1 then (if (x0.length : Int) > 1 then (if 1 < (x0.length : Int) then (if ((rd_T58 x0 1).f1) ≥ x2 then (some (1, ([] : List (S58)))) else ((spec_l5Copy.f x0).bind fun t457 => (if 0 < (t457.length : Int) then (some (0, (t457.set (0 : Int).toNat (⟨(rd_T58 t457 0).f0, x2, (rd_T58 t457 0).f2, (rd_T58 t457 0).f3⟩ : S58)))) else (none)))) else (none)) else ((spec_l5Copy.f x0).bind fun t461 => (if 0 < (t461.length : Int) then (some (0, (t461.set (0 : Int).toNat (⟨(rd_T58 t461 0).f0, x2, (rd_T58 t461 0).f2, (rd_T58 t461 0).f3⟩ : S58)))) else (none)))) else (some (4, ([] : List (S58))))))
def spec_CommitChain.f (k : Nat) (l0 : List (S58)) (a1 : Int) (a2 : Int) : Option (Int × (List (S58))) := (spec_ChainFault.f k l0).bind fun t452 => (if t452 = 0 then ((spec_l5Txn.f a1).bind fun t453 => (if t453 = true then ((spec_l5At.f a2).bind fun t454 => (spec_CommitChain.j0 k l0 a1 a2 (!t454))) else (spec_CommitChain.j0 k l0 a1 a2 true))) else (some (t452, ([] : List (S58)))))

/-! ### impl_CommitChain: function 35 -/
mutual
def impl_CommitChain.j0 : Nat → List (S58) → Int → Int → Int → Bool → Option (Int × (List (S58)))
  | 0, _, _, _, _, _ => none
  | k + 1, x0, x1, x2, x7, x14 => if x14 = true then (some (3, ([] : List (S58)))) else ((impl_isOpenOf.f x0 x1).bind fun t469 => (if t469 = true then (if (x0.length : Int) > 1 then (if 1 < (x0.length : Int) then (impl_CommitChain.j1 k x0 x2 x7 (decide (x2 ≤ ((rd_T58 x0 1).f1)))) else (none)) else (impl_CommitChain.j1 k x0 x2 x7 false)) else (some (4, ([] : List (S58))))))
def impl_CommitChain.j1 : Nat → List (S58) → Int → Int → Bool → Option (Int × (List (S58)))
  | 0, _, _, _, _ => none
  | k + 1, x0, x2, x7, x28 => if x28 = true then (some (1, ([] : List (S58)))) else (if x7 = 0 then ((slices_Clone_impl_Version.f x0).bind fun t471 => (if 0 < (t471.length : Int) then (some (0, (t471.set (0 : Int).toNat (⟨(rd_T58 t471 0).f0, x2, (rd_T58 t471 0).f2, (rd_T58 t471 0).f3⟩ : S58)))) else (none))) else (some (x7, ([] : List (S58)))))
end
def impl_CommitChain.f (k : Nat) (l0 : List (S58)) (a1 : Int) (a2 : Int) : Option (Int × (List (S58))) := (impl_ChainFault.f k l0).bind fun t466 => (if t466 = 0 then ((impl_isTxn.f a1).bind fun t467 => (if t467 = true then ((impl_within.f a2 1 1000000).bind fun t468 => (impl_CommitChain.j0 k l0 a1 a2 t466 (!t468))) else (impl_CommitChain.j0 k l0 a1 a2 t466 true))) else (some (t466, ([] : List (S58)))))

/-! ### laws_FnExactCommitChain: function 9 -/
def laws_FnExactCommitChain.j0 : Nat → List (S61) → Int → Int → Bool → Int → List (S58) → Int → List (S58) → Option (Bool)
  | 0, _, _, _, _, _, _, _, _ => none
  | k + 1, x0, x1, x2, x50, x484000, x484001, x492000, x492001 => if x50 = true then (some false) else ((laws_markChainResult.f k x492000 x492001 1).bind fun bt500 => ((laws_heldChainResult.f k x492000 bt500.2 1).bind fun t502 => (if t502 < 0 then (some false) else (if t502 = bt500.1 then ((laws_toVersionS.f k x0).bind fun t503 => ((impl_CommitChain.f k t503 x1 x2).bind fun bt506 => ((laws_eqChainResult.f k bt506.1 bt506.2 x484000 x484001).bind fun t511 => (if t511 = true then ((laws_heldChainResult.f k x492000 bt500.2 1).bind fun t512 => (if t512 < 0 then (some false) else (if t512 = bt500.1 then (some true) else (some false)))) else (some false))))) else (some false)))))
def laws_FnExactCommitChain.f (k : Nat) (l0 : List (S61)) (a1 : Int) (a2 : Int) : Option (Bool) := (laws_szVersionS.f l0 1048576).bind fun t475 => (if t475 < 0 then (some true) else ((laws_toVersionS.f k l0).bind fun t476 => ((spec_CommitChain.f k t476 a1 a2).bind fun bt479 => ((laws_toVersionS.f k l0).bind fun t484 => ((impl_CommitChain.f k t484 a1 a2).bind fun bt487 => ((laws_eqChainResult.f k bt487.1 bt487.2 bt479.1 bt479.2).bind fun t492 => (if t492 = true then ((laws_toVersionS.f k l0).bind fun t493 => ((laws_eqVersionS.f k t484 t493).bind fun t496 => (if t496 = true then ((laws_markVersionS.f k t484 1).bind fun bt497 => (if bt497.1 < 0 then (laws_FnExactCommitChain.j0 k l0 a1 a2 true bt479.1 bt479.2 bt487.1 bt487.2) else ((laws_eqChainResult.f k bt487.1 bt487.2 bt479.1 bt479.2).bind fun t499 => (laws_FnExactCommitChain.j0 k l0 a1 a2 (!t499) bt479.1 bt479.2 bt487.1 bt487.2)))) else (some false)))) else (some false))))))))

/-! ### laws_lwBig: function 36 -/
def laws_lwBig.f (l0 : List Int) : Option (Bool) := some (decide ((l0.length : Int) > 1048576))

/-- A state of type 81 at block g of W; what its slices lead to came in by w0. -/
def IsS81 (w0 W : World) (g : Nat) (f0 : List Int) (f1 : Int) : Prop := ∃ A0 c0, W.heap[g]? = some (.cells #[.slice A0 f0.length c0, .int .i64 f1] 81 (0, 0)) ∧ w0.heap.size ≤ g ∧ Kd.C (Kd.int .u8) w0 A0 f0.length f0
theorem IsS81.grown {w0 W : World} {g : Nat} {f0 : List Int} {f1 : Int} {W1 : World} {row : Option Nat} (h : IsS81 w0 W g f0 f1) (hw : W.grownBy W1 row) (hne : some g ≠ row) : IsS81 w0 W1 g f0 f1 := by
  obtain ⟨A0, c0, hb, hg, hr0⟩ := h
  exact ⟨A0, c0, blk_grown hb hw hne, hg, hr0⟩
theorem IsS81.own_neN {w0 W : World} {g : Nat} {f0 : List Int} {f1 : Int} {α : Type} {d : Kd α} {e : Nat} {base : Nat} {ok : Nat → Prop} {v : Value} {xs : List α} (h : IsS81 w0 W g f0 f1) (ho : Kd.N d e W base ok v xs) (ht : e ≠ 81) : some g ≠ v.ownBlock := by
  obtain ⟨A0, c0, hb, hg, hr0⟩ := h
  exact Kd.N_ne ho hb ht
theorem IsS81.fresh {w0 W : World} {g : Nat} {f0 : List Int} {f1 : Int} (h : IsS81 w0 W g f0 f1) : ∀ k, W.heap.size ≤ k → k ≠ g := by
  obtain ⟨A0, c0, hb, hg, hr0⟩ := h
  exact Kd.freshB hb
theorem IsS81.kept {w0 W : World} {g : Nat} {f0 : List Int} {f1 : Int} {W1 : World} {S : Nat → Prop} (h : IsS81 w0 W g f0 f1) (hk : Kept W W1 S) (hne : ¬ S g) : IsS81 w0 W1 g f0 f1 := by
  obtain ⟨A0, c0, hb, hg, hr0⟩ := h
  exact ⟨A0, c0, blk_kept hb hk hne, hg, hr0⟩
theorem IsS81.below {w0 W : World} {g : Nat} {f0 : List Int} {f1 : Int} {W1 : World} (h : IsS81 w0 W g f0 f1) (hw : Below W.heap.size W W1) : IsS81 w0 W1 g f0 f1 := h.grown (grown_of_below hw none) (by simp)
theorem IsS81.alloc {w0 W : World} {g : Nat} {f0 : List Int} {f1 : Int} (h : IsS81 w0 W g f0 f1) (o : Obj) : IsS81 w0 (W.alloc o) g f0 f1 := h.below (below_alloc (Below.refl _ _) o)
theorem IsS81.drewN {w0 W : World} {g : Nat} {f0 : List Int} {f1 : Int} (h : IsS81 w0 W g f0 f1) (m : Nat) : IsS81 w0 (W.drewN m) g f0 f1 := h
theorem IsS81.drew {w0 W : World} {g : Nat} {f0 : List Int} {f1 : Int} (h : IsS81 w0 W g f0 f1) : IsS81 w0 W.drew g f0 f1 := h
theorem IsS81.at_ {w0 W : World} {g : Nat} {f0 : List Int} {f1 : Int} {w' : World} {m : Nat} (hq : W.drewN m = w') (h : IsS81 w0 W g f0 f1) : IsS81 w0 w' g f0 f1 := by subst hq; exact IsS81.drewN h m
theorem IsS81.apart {w0 W : World} {g : Nat} {f0 : List Int} {f1 : Int} {α : Type} {d : Kd α} {e : Nat} {base : Nat} {ok : Nat → Prop} {v : Value} {xs : List α} (h : IsS81 w0 W g f0 f1) (ho : d.R e W base ok v xs) (ht : ∀ q, q ∈ e :: d.E → q ≠ 81) : d.R e W base (fun k => ok k ∧ k ≠ g) v xs := by
  obtain ⟨A0, c0, hb, hg, hr0⟩ := h
  exact Kd.R_types ho hb ht
theorem IsS81.own_ne {w0 W : World} {g : Nat} {f0 : List Int} {f1 : Int} {α : Type} {d : Kd α} {e : Nat} {base : Nat} {ok : Nat → Prop} {v : Value} {xs : List α} (h : IsS81 w0 W g f0 f1) (ho : d.R e W base ok v xs) (ht : e ≠ 81) : some g ≠ v.ownBlock := by
  obtain ⟨A0, c0, hb, hg, hr0⟩ := h
  exact Kd.R_ne ho hb ht
theorem IsS81.apartQ {w0 W : World} {g : Nat} {f0 : List Int} {f1 : Int} {α : Type} {d : Kd α} {e : Nat} {base : Nat} {ok : Nat → Prop} {v : Value} {xs : List α} (h : IsS81 w0 W g f0 f1) (ho : d.Q e W base ok v xs) (ht : ∀ q, q ∈ e :: d.E → q ≠ 81) : d.Q e W base (fun k => ok k ∧ k ≠ g) v xs := by
  obtain ⟨A0, c0, hb, hg, hr0⟩ := h
  exact Kd.Q_types ho hb ht
theorem IsS81.own_neQ {w0 W : World} {g : Nat} {f0 : List Int} {f1 : Int} {α : Type} {d : Kd α} {e : Nat} {base : Nat} {ok : Nat → Prop} {v : Value} {xs : List α} (h : IsS81 w0 W g f0 f1) (ho : d.Q e W base ok v xs) (ht : e ≠ 81) : some g ≠ v.ownBlock := by
  obtain ⟨A0, c0, hb, hg, hr0⟩ := h
  exact Kd.Q_ne ho hb ht
theorem IsS81.apartS {w0 W : World} {g : Nat} {f0 : List Int} {f1 : Int} {α : Type} {d : Kd α} {e : Nat} {base : Nat} {ok : Nat → Prop} {v : Value} {xs : List α} (h : IsS81 w0 W g f0 f1) (ho : d.S e W base ok v xs) (ht : ∀ q, q ∈ e :: d.E → q ≠ 81) : d.S e W base (fun k => ok k ∧ k ≠ g) v xs := by
  obtain ⟨A0, c0, hb, hg, hr0⟩ := h
  exact Kd.S_types ho hb ht
theorem IsS81.own_neS {w0 W : World} {g : Nat} {f0 : List Int} {f1 : Int} {α : Type} {d : Kd α} {e : Nat} {base : Nat} {ok : Nat → Prop} {v : Value} {xs : List α} (h : IsS81 w0 W g f0 f1) (ho : d.S e W base ok v xs) (ht : e ≠ 81) : some g ≠ v.ownBlock := by
  obtain ⟨A0, c0, hb, hg, hr0⟩ := h
  exact Kd.S_ne ho hb ht
theorem IsS81.lt {w0 W : World} {g : Nat} {f0 : List Int} {f1 : Int} (h : IsS81 w0 W g f0 f1) : g < W.heap.size := by
  obtain ⟨A0, c0, hb, hg, hr0⟩ := h
  exact blk_lt hb
theorem IsS81.ge {w0 W : World} {g : Nat} {f0 : List Int} {f1 : Int} (h : IsS81 w0 W g f0 f1) : w0.heap.size ≤ g := by
  obtain ⟨A0, c0, hb, hg, hr0⟩ := h
  exact hg
theorem IsS81.ne_blk {w0 W : World} {g : Nat} {f0 : List Int} {f1 : Int} {a : Nat} {cs : Array Value} {t : TypeId} {fr : Nat × Nat} (h : IsS81 w0 W g f0 f1) (hb2 : W.heap[a]? = some (.cells cs t fr)) (ht : t ≠ 81) : g ≠ a := by
  obtain ⟨A0, c0, hb, hg, hr0⟩ := h
  rintro rfl
  rw [hb] at hb2
  injection hb2 with hb2
  injection hb2 with _ ht2
  exact ht ht2.symm
theorem IsS81.far {w0 W : World} {g : Nat} {f0 : List Int} {f1 : Int} {p : Addr} (h : IsS81 w0 W g f0 f1) (hne : g ≠ p.block) (u : Value) : IsS81 w0 (W.setCell p u) g f0 f1 := by
  obtain ⟨A0, c0, hb, hg, hr0⟩ := h
  exact ⟨A0, c0, blk_far hb hne u, hg, hr0⟩
theorem cellS81_0 {W : World} {g : Nat} {A0 : Option Addr} {c0 : Nat} {f0 : List Int} {f1 : Int} (h : W.heap[g]? = some (.cells #[.slice A0 f0.length c0, .int .i64 f1] 81 (0, 0))) : W.cell? ⟨g, 0, none⟩ = some (.slice A0 f0.length c0) := (blk_cell h 0).trans rfl
theorem cellS81_1 {W : World} {g : Nat} {A0 : Option Addr} {c0 : Nat} {f0 : List Int} {f1 : Int} (h : W.heap[g]? = some (.cells #[.slice A0 f0.length c0, .int .i64 f1] 81 (0, 0))) : W.cell? ⟨g, 1, none⟩ = some (.int .i64 f1) := (blk_cell h 1).trans rfl
theorem IsS81.set_1 {w0 W : World} {g : Nat} {f0 : List Int} {f1 : Int} (h : IsS81 w0 W g f0 f1) (x : Int) : IsS81 w0 (W.setCell ⟨g, 1, none⟩ (.int .i64 x)) g f0 x := by
  obtain ⟨A0, c0, hb, hg, hr0⟩ := h
  exact ⟨A0, c0, by simpa using blk_set hb 1 (.int .i64 x), hg, hr0⟩
theorem IsS81.new (w0 W : World) (A0 : Option Addr) (c0 : Nat) (f0 : List Int) (f1 : Int) (hB : Below w0.heap.size w0 W) (hr0 : Kd.C (Kd.int .u8) w0 A0 f0.length f0) : IsS81 w0 (W.alloc (.cells #[.slice A0 f0.length c0, .int .i64 f1] 81)) W.heap.size f0 f1 := ⟨A0, c0, by simpa using heap_alloc_new W _, hB.size, hr0⟩

/-! ### spec_l1Source: function 64 -/
def spec_l1Source.f (l0 : List Int) : Option (List Int × Int) := some (l0, 0)

/-! ### spec_l1Next: function 67 -/
def spec_l1Next.f (s0_0 : List Int) (s0_1 : Int) (a1 : Int) : Option (Int × Int) := if a1 < 1 then (some (0, wrap64 (s0_1 + 1))) else (if (s0_0.length : Int) = 0 then (if a1 = 0 then (none) else (some (Int.tmod (wrap64 ((wrap64 ((wrap64 (s0_1 + 1)) - 1)) * 7)) a1, wrap64 (s0_1 + 1)))) else (if 0 ≤ (Int.tmod (wrap64 ((wrap64 (s0_1 + 1)) - 1)) (s0_0.length : Int)) then (if (Int.tmod (wrap64 ((wrap64 (s0_1 + 1)) - 1)) (s0_0.length : Int)) < (s0_0.length : Int) then (if a1 > 200 then (if 0 ≤ (Int.tmod (wrap64 ((wrap64 ((wrap64 (s0_1 + 1)) - 1)) + 1)) (s0_0.length : Int)) then (if (Int.tmod (wrap64 ((wrap64 ((wrap64 (s0_1 + 1)) - 1)) + 1)) (s0_0.length : Int)) < (s0_0.length : Int) then (if a1 = 0 then (none) else (some (Int.tmod (wrap64 ((wrap64 ((wrap64 ((wrap64 ((wrap64 (rd s0_0 (Int.tmod (wrap64 ((wrap64 (s0_1 + 1)) - 1)) (s0_0.length : Int)))) + (wrap64 ((wrap64 (Int.tdiv (wrap64 ((wrap64 (s0_1 + 1)) - 1)) (s0_0.length : Int))) * 37)))) * 251)) + (wrap64 ((wrap64 (rd s0_0 (Int.tmod (wrap64 ((wrap64 ((wrap64 (s0_1 + 1)) - 1)) + 1)) (s0_0.length : Int)))) * 13)))) + (wrap64 ((wrap64 (s0_1 + 1)) - 1)))) a1, wrap64 (s0_1 + 1)))) else (none)) else (none)) else (if a1 = 0 then (none) else (some (Int.tmod (wrap64 ((wrap64 (rd s0_0 (Int.tmod (wrap64 ((wrap64 (s0_1 + 1)) - 1)) (s0_0.length : Int)))) + (wrap64 ((wrap64 (Int.tdiv (wrap64 ((wrap64 (s0_1 + 1)) - 1)) (s0_0.length : Int))) * 37)))) a1, wrap64 (s0_1 + 1))))) else (none)) else (none)))

/-! ### spec_l1Pick: function 66 -/
def spec_l1Pick.f (s0_0 : List Int) (s0_1 : Int) (l1 : List Int) : Option (Int × Int) := (spec_l1Next.f s0_0 s0_1 (l1.length : Int)).bind fun bt516 => (if 0 ≤ bt516.1 then (if bt516.1 < (l1.length : Int) then (some (rd l1 bt516.1, bt516.2)) else (none)) else (none))

/-! ### spec_l1Chance: function 70 -/
def spec_l1Chance.f (s0_0 : List Int) (s0_1 : Int) (a1 : Int) : Option (Bool × Int) := (spec_l1Next.f s0_0 s0_1 a1).bind fun bt519 => (some ((bt519.1 == 0), bt519.2))

/-! ### spec_l5Chain: function 74 -/
mutual
def spec_l5Chain.l0 : Nat → List (S58) → Int → Int → List Int → Int → Option ((List (S58)) × Int)
  | 0, _, _, _, _, _ => none
  | k + 1, x3, x4, x5, x1000, x1001 => if x5 > 0 then ((spec_l1Next.f x1000 x1001 6).bind fun bt535 => ((spec_l1Next.f x1000 bt535.2 90).bind fun bt537 => ((spec_l1Chance.f x1000 bt537.2 4).bind fun bt540 => (if bt540.1 = true then (spec_l5Chain.j1 k x3 x4 x5 x1000 bt540.2 (wrap64 (1 + bt535.1)) x4 true 0) else (spec_l5Chain.j1 k x3 x4 x5 x1000 bt540.2 (wrap64 (1 + bt535.1)) x4 false bt537.1))))) else (some (x3, x1001))
def spec_l5Chain.j1 : Nat → List (S58) → Int → Int → List Int → Int → Int → Int → Bool → Int → Option ((List (S58)) × Int)
  | 0, _, _, _, _, _, _, _, _, _ => none
  | k + 1, x3, x4, x5, x1000, x1001, x540000, x540001, x540002, x540003 => if (x3.length : Int) = 0 then ((spec_l1Chance.f x1000 x1001 2).bind fun bt542 => (if bt542.1 = true then (if x3.length < 4398046511104 then ((spec_l1Next.f x1000 bt542.2 3).bind fun bt547 => (spec_l5Chain.l0 k (x3 ++ [(⟨x540000, 0, x540002, x540003⟩ : S58)]) (wrap64 ((wrap64 (x4 - 1)) - bt547.1)) (wrap64 (x5 - 1)) x1000 bt547.2)) else (none)) else (if x3.length < 4398046511104 then ((spec_l1Next.f x1000 bt542.2 3).bind fun bt552 => (spec_l5Chain.l0 k (x3 ++ [(⟨x540000, x540001, x540002, x540003⟩ : S58)]) (wrap64 ((wrap64 (x4 - 1)) - bt552.1)) (wrap64 (x5 - 1)) x1000 bt552.2)) else (none)))) else (if x3.length < 4398046511104 then ((spec_l1Next.f x1000 x1001 3).bind fun bt557 => (spec_l5Chain.l0 k (x3 ++ [(⟨x540000, x540001, x540002, x540003⟩ : S58)]) (wrap64 ((wrap64 (x4 - 1)) - bt557.1)) (wrap64 (x5 - 1)) x1000 bt557.2)) else (none))
end
def spec_l5Chain.f (k : Nat) (s0_0 : List Int) (s0_1 : Int) : Option ((List (S58)) × Int) := (spec_l1Next.f s0_0 s0_1 20).bind fun bt524 => ((spec_l1Next.f s0_0 bt524.2 5).bind fun bt526 => ((spec_l1Next.f s0_0 bt526.2 5).bind fun bt528 => ((spec_l1Pick.f s0_0 bt528.2 (([bt526.1, bt528.1, 12] : List Int))).bind fun bt533 => (spec_l5Chain.l0 k (([] : List (S58))) (wrap64 (40 + bt524.1)) bt533.1 s0_0 bt533.2))))

/-! ### spec_l5Bent: function 65 -/
def spec_l5Bent.f (k : Nat) (s0_0 : List Int) (s0_1 : Int) : Option ((List (S58)) × Int) := (spec_l5Chain.f k s0_0 s0_1).bind fun bt559 => (if (bt559.1.length : Int) = 0 then (some (bt559.1, bt559.2)) else ((spec_l1Next.f s0_0 bt559.2 (bt559.1.length : Int)).bind fun bt563 => ((spec_l1Next.f s0_0 bt563.2 20).bind fun bt565 => (if bt565.1 = 0 then ((spec_l1Pick.f s0_0 bt565.2 (([0, 999, 1000] : List Int))).bind fun bt570 => (if 0 ≤ bt563.1 then (if bt563.1 < (bt559.1.length : Int) then (some ((bt559.1.set (bt563.1 : Int).toNat (⟨bt570.1, (rd_T58 bt559.1 bt563.1).f1, (rd_T58 bt559.1 bt563.1).f2, (rd_T58 bt559.1 bt563.1).f3⟩ : S58)), bt570.2)) else (none)) else (none))) else (if bt565.1 = 1 then ((spec_l1Pick.f s0_0 bt565.2 (([0, (-1), 1000000, 1000001] : List Int))).bind fun bt576 => (if 0 ≤ bt563.1 then (if bt563.1 < (bt559.1.length : Int) then (some ((bt559.1.set (bt563.1 : Int).toNat (⟨(rd_T58 bt559.1 bt563.1).f0, bt576.1, (rd_T58 bt559.1 bt563.1).f2, (rd_T58 bt559.1 bt563.1).f3⟩ : S58)), bt576.2)) else (none)) else (none))) else (if bt565.1 = 2 then ((spec_l1Pick.f s0_0 bt565.2 (([(-1), 9999, 10000] : List Int))).bind fun bt582 => (if 0 ≤ bt563.1 then (if bt563.1 < (bt559.1.length : Int) then (some ((bt559.1.set (bt563.1 : Int).toNat (⟨(rd_T58 bt559.1 bt563.1).f0, (rd_T58 bt559.1 bt563.1).f1, (rd_T58 bt559.1 bt563.1).f2, bt582.1⟩ : S58)), bt582.2)) else (none)) else (none))) else (if bt565.1 = 3 then (if 0 ≤ bt563.1 then (if bt563.1 < (bt559.1.length : Int) then (some ((bt559.1.set (bt563.1 : Int).toNat (⟨(rd_T58 bt559.1 bt563.1).f0, (rd_T58 bt559.1 bt563.1).f1, !((rd_T58 bt559.1 bt563.1).f2), (rd_T58 bt559.1 bt563.1).f3⟩ : S58)), bt565.2)) else (none)) else (none)) else (if bt565.1 = 4 then (some ((List.replicate 13 z58), bt565.2)) else (some (bt559.1, bt565.2))))))))))

/-! ### spec_DrawPurgeChain: function 37 -/
def spec_DrawPurgeChain.f (k : Nat) (l0 : List Int) : Option ((List (S58)) × Int) := (spec_l1Source.f l0).bind fun bt590 => ((spec_l5Bent.f k bt590.1 bt590.2).bind fun bt593 => ((spec_l1Next.f bt590.1 bt593.2 40).bind fun bt597 => ((spec_l1Next.f bt590.1 bt597.2 40).bind fun bt599 => ((spec_l1Pick.f bt590.1 bt599.2 (([wrap64 (30 + bt597.1), wrap64 (30 + bt599.1), 0, 1000000, 1000001, (-1)] : List Int))).bind fun bt604 => (some (bt593.1, bt604.1))))))

/-! ### laws_FnPurges: function 10 -/
mutual
def laws_FnPurges.j0 : Nat → List (S58) → Int → Bool → Int → List (S58) → Option (Bool)
  | 0, _, _, _, _, _ => none
  | k + 1, x3, x4, x53, x616000, x616001 => if x53 = true then (some false) else (laws_FnPurges.l0 k x3 x4 0 x616000 x616001)
def laws_FnPurges.l0 : Nat → List (S58) → Int → Int → Int → List (S58) → Option (Bool)
  | 0, _, _, _, _, _ => none
  | k + 1, x3, x4, x6, x616000, x616001 => if x6 < 40 then (if x6 > 30 then (laws_FnPurges.j2 k x3 x4 x6 (wrap64 (x4 + x6)) (decide (x4 < 900)) x616000 x616001) else (laws_FnPurges.j2 k x3 x4 x6 (wrap64 (x4 + x6)) false x616000 x616001)) else ((impl_PurgeChain.f k x616001 x4).bind fun bt625 => (if bt625.1 = 0 then (some ((bt625.2.length : Int) == (x616001.length : Int))) else (some false)))
def laws_FnPurges.j2 : Nat → List (S58) → Int → Int → Int → Bool → Int → List (S58) → Option (Bool)
  | 0, _, _, _, _, _, _, _ => none
  | k + 1, x3, x4, x6, x7, x66, x616000, x616001 => if x66 = true then (laws_FnPurges.j3 k x3 x4 x6 (wrap64 (60 + x6)) x616000 x616001) else (laws_FnPurges.j3 k x3 x4 x6 x7 x616000 x616001)
def laws_FnPurges.j3 : Nat → List (S58) → Int → Int → Int → Int → List (S58) → Option (Bool)
  | 0, _, _, _, _, _, _ => none
  | k + 1, x3, x4, x6, x7, x616000, x616001 => if x7 > 1000000 then (laws_FnPurges.j4 k x3 x4 x6 x7 true x616000 x616001) else (laws_FnPurges.j4 k x3 x4 x6 x7 (decide (x7 < x4)) x616000 x616001)
def laws_FnPurges.j4 : Nat → List (S58) → Int → Int → Int → Bool → Int → List (S58) → Option (Bool)
  | 0, _, _, _, _, _, _, _ => none
  | k + 1, x3, x4, x6, x7, x75, x616000, x616001 => if x75 = true then (laws_FnPurges.l0 k x3 x4 (wrap64 (x6 + 1)) x616000 x616001) else (laws_FnPurges.l1 k x3 x4 x6 x7 0 x616000 x616001)
def laws_FnPurges.l1 : Nat → List (S58) → Int → Int → Int → Int → Int → List (S58) → Option (Bool)
  | 0, _, _, _, _, _, _, _ => none
  | k + 1, x3, x4, x6, x7, x8, x616000, x616001 => if x8 < 4 then ((impl_SeenIn.f k x616001 x7 x8).bind fun bt631 => ((impl_SeenIn.f k x3 x7 x8).bind fun bt633 => (if (!(bt631.1 == bt633.1) || (!(bt631.2 == bt633.2))) = true then (some false) else ((impl_MayWrite.f k x616001 x7 x8).bind fun t635 => ((impl_MayWrite.f k x3 x7 x8).bind fun t636 => (if t635 = t636 then (laws_FnPurges.l1 k x3 x4 x6 x7 (wrap64 (x8 + 1)) x616000 x616001) else (some false))))))) else (laws_FnPurges.l0 k x3 x4 (wrap64 (x6 + 1)) x616000 x616001)
end
def laws_FnPurges.f (k : Nat) (l0 : List Int) : Option (Bool) := (laws_lwBig.f l0).bind fun t606 => (if t606 = true then (some true) else ((spec_DrawPurgeChain.f k l0).bind fun bt607 => ((impl_PurgeChain.f k bt607.1 bt607.2).bind fun bt611 => (if bt611.1 = 0 then ((impl_ChainFault.f k bt611.2).bind fun t620 => (if t620 = 0 then (if (bt611.2.length : Int) > (bt607.1.length : Int) then (laws_FnPurges.j0 k bt607.1 bt607.2 true bt611.1 bt611.2) else ((spec_PurgeChain.f k bt607.1 bt607.2).bind fun bt621 => (laws_FnPurges.j0 k bt607.1 bt607.2 ((bt611.2.length : Int) != (bt621.2.length : Int)) bt611.1 bt611.2))) else (laws_FnPurges.j0 k bt607.1 bt607.2 true bt611.1 bt611.2))) else ((spec_PurgeChain.f k bt607.1 bt607.2).bind fun bt616 => (some (bt616.1 == bt611.1)))))))

/-! ### spec_l5Push: function 68 -/
def spec_l5Push.f (l0 : List (S58)) (a1 : Int) (a2 : Bool) (a3 : Int) : Option ((List (S58)) × Int) := (spec_l5Writer.f l0).bind fun t638 => (if t638 = a1 then ((spec_l5Copy.f l0).bind fun t639 => (if 0 < (t639.length : Int) then (some ((t639.set (0 : Int).toNat (⟨a1, 0, a2, a3⟩ : S58)), 0)) else (none))) else (if (l0.length : Int) ≥ 12 then (some (l0, 2)) else ((some (([(⟨a1, 0, a2, a3⟩ : S58)] : List (S58)) : List (S58))).bind fun y643 => (if y643.length + l0.length < 4398046511104 then (some ((y643 ++ l0), 0)) else (none)))))

/-! ### spec_PushVersion: function 38 -/
def spec_PushVersion.j0 : Nat → List (S58) → Bool → Int → Bool → Int → Int → Option (Int × (List (S58)))
  | 0, _, _, _, _, _, _ => none
  | k + 1, x0, x2, x3, x28, x650000, x650001 => if x28 = true then (some (1, ([] : List (S58)))) else ((spec_MayWrite.f k x0 x650000 x650001).bind fun t653 => (if t653 = 0 then ((spec_l5Push.f x0 x650001 x2 x3).bind fun bt654 => (if bt654.2 = 0 then (some (0, bt654.1)) else (some (bt654.2, ([] : List (S58)))))) else (some (t653, ([] : List (S58))))))
def spec_PushVersion.f (k : Nat) (l0 : List (S58)) (a1_0 : Int) (a1_1 : Int) (a2 : Bool) (a3 : Int) : Option (Int × (List (S58))) := (spec_l5Asked.f k l0 a1_0 a1_1).bind fun t651 => (if t651 = 0 then ((spec_l1Value.f a3).bind fun t652 => (if t652 = true then (if a2 = true then (spec_PushVersion.j0 k l0 a2 a3 (a3 != 0) a1_0 a1_1) else (spec_PushVersion.j0 k l0 a2 a3 false a1_0 a1_1)) else (some (3, ([] : List (S58)))))) else (some (t651, ([] : List (S58)))))

/-! ### impl_PushVersion: function 39 -/
mutual
def impl_PushVersion.j0 : Nat → List (S58) → Bool → Int → Int → Int → Int → Option (Int × (List (S58)))
  | 0, _, _, _, _, _, _ => none
  | k + 1, x0, x2, x3, x9, x659000, x659001 => if x9 = 0 then (if (x0.length : Int) > 0 then (if 0 < (x0.length : Int) then (impl_PushVersion.j1 k x0 (((rd_T58 x0 0).f1) == 0) x659001 0 x2 x3) else (none)) else (impl_PushVersion.j1 k x0 false x659001 0 x2 x3)) else (some (x9, ([] : List (S58))))
def impl_PushVersion.j1 : Nat → List (S58) → Bool → Int → Int → Bool → Int → Option (Int × (List (S58)))
  | 0, _, _, _, _, _, _ => none
  | k + 1, x0, x49, x665000, x665001, x665002, x665003 => if x49 = true then ((slices_Clone_impl_Version.f x0).bind fun t666 => (if 0 < (t666.length : Int) then (some (0, (t666.set (0 : Int).toNat (⟨x665000, x665001, x665002, x665003⟩ : S58)))) else (none))) else (if (x0.length : Int) = 12 then (some (2, ([] : List (S58)))) else ((some (([(⟨x665000, x665001, x665002, x665003⟩ : S58)] : List (S58)) : List (S58))).bind fun y670 => (if y670.length + x0.length < 4398046511104 then (some (0, (y670 ++ x0))) else (none))))
end
def impl_PushVersion.f (k : Nat) (l0 : List (S58)) (a1_0 : Int) (a1_1 : Int) (a2 : Bool) (a3 : Int) : Option (Int × (List (S58))) := (impl_viewCode.f k l0 a1_0 a1_1).bind fun t660 => (if t660 = 0 then ((impl_isValue.f a3).bind fun t661 => (if t661 = true then (if a2 = true then (if a3 = 0 then ((impl_MayWrite.f k l0 a1_0 a1_1).bind fun t662 => (impl_PushVersion.j0 k l0 a2 a3 t662 a1_0 a1_1)) else (impl_PushVersion.j0 k l0 a2 a3 1 a1_0 a1_1)) else ((impl_MayWrite.f k l0 a1_0 a1_1).bind fun t663 => (impl_PushVersion.j0 k l0 a2 a3 t663 a1_0 a1_1))) else (impl_PushVersion.j0 k l0 a2 a3 3 a1_0 a1_1))) else (impl_PushVersion.j0 k l0 a2 a3 t660 a1_0 a1_1))

/-! ### laws_FnExactPushVersion: function 11 -/
def laws_FnExactPushVersion.j0 : Nat → List (S61) → Bool → Int → Bool → Int → Int → Int → List (S58) → Int → List (S58) → Option (Bool)
  | 0, _, _, _, _, _, _, _, _, _, _ => none
  | k + 1, x0, x2, x3, x56, x677000, x677001, x688000, x688001, x698000, x698001 => if x56 = true then (some false) else ((laws_markChainResult.f k x698000 x698001 1).bind fun bt706 => ((laws_heldChainResult.f k x698000 bt706.2 1).bind fun t708 => (if t708 < 0 then (some false) else (if t708 = bt706.1 then ((laws_toVersionS.f k x0).bind fun t709 => ((laws_toView.f x677000 x677001).bind fun bt712 => ((impl_PushVersion.f k t709 bt712.1 bt712.2 x2 x3).bind fun bt714 => ((laws_eqChainResult.f k bt714.1 bt714.2 x688000 x688001).bind fun t719 => (if t719 = true then ((laws_heldChainResult.f k x698000 bt706.2 1).bind fun t720 => (if t720 < 0 then (some false) else (if t720 = bt706.1 then (some true) else (some false)))) else (some false)))))) else (some false)))))
def laws_FnExactPushVersion.f (k : Nat) (l0 : List (S61)) (a1_0 : Int) (a1_1 : Int) (a2 : Bool) (a3 : Int) : Option (Bool) := (laws_szVersionS.f l0 1048576).bind fun t677 => (if t677 < 0 then (some true) else ((laws_toVersionS.f k l0).bind fun t678 => ((laws_toView.f a1_0 a1_1).bind fun bt681 => ((spec_PushVersion.f k t678 bt681.1 bt681.2 a2 a3).bind fun bt683 => ((laws_toVersionS.f k l0).bind fun t688 => ((laws_toView.f a1_0 a1_1).bind fun bt691 => ((impl_PushVersion.f k t688 bt691.1 bt691.2 a2 a3).bind fun bt693 => ((laws_eqChainResult.f k bt693.1 bt693.2 bt683.1 bt683.2).bind fun t698 => (if t698 = true then ((laws_toVersionS.f k l0).bind fun t699 => ((laws_eqVersionS.f k t688 t699).bind fun t702 => (if t702 = true then ((laws_markVersionS.f k t688 1).bind fun bt703 => (if bt703.1 < 0 then (laws_FnExactPushVersion.j0 k l0 a2 a3 true a1_0 a1_1 bt683.1 bt683.2 bt693.1 bt693.2) else ((laws_eqChainResult.f k bt693.1 bt693.2 bt683.1 bt683.2).bind fun t705 => (laws_FnExactPushVersion.j0 k l0 a2 a3 (!t705) a1_0 a1_1 bt683.1 bt683.2 bt693.1 bt693.2)))) else (some false)))) else (some false))))))))))

/-! ### spec_l5DrawView: function 75 -/
def spec_l5DrawView.f (s0_0 : List Int) (s0_1 : Int) : Option (Int × Int × Int) := (spec_l1Next.f s0_0 s0_1 40).bind fun bt722 => ((spec_l1Next.f s0_0 bt722.2 40).bind fun bt724 => ((spec_l1Pick.f s0_0 bt724.2 (([wrap64 (30 + bt722.1), wrap64 (30 + bt724.1), 0, 1000000, 1000001, (-1)] : List Int))).bind fun bt729 => ((spec_l1Next.f s0_0 bt729.2 7).bind fun bt731 => ((spec_l1Next.f s0_0 bt731.2 7).bind fun bt733 => ((spec_l1Pick.f s0_0 bt733.2 (([bt731.1, bt733.1, 1, 999, 1000] : List Int))).bind fun bt738 => (some (bt729.1, bt738.1, bt738.2)))))))

/-! ### spec_l5With: function 69 -/
def spec_l5With.f (k : Nat) (l0 : List Int) : Option ((List (S58)) × Int × Int) := (spec_l1Source.f l0).bind fun bt741 => ((spec_l5Bent.f k bt741.1 bt741.2).bind fun bt744 => ((spec_l5DrawView.f bt741.1 bt744.2).bind fun bt748 => (if (bt744.1.length : Int) > 0 then (if 0 < (bt744.1.length : Int) then (if ((rd_T58 bt744.1 0).f1) = 0 then ((spec_l1Chance.f bt741.1 bt748.2.2 2).bind fun bt753 => (if bt753.1 = true then (some (bt744.1, bt748.1, (rd_T58 bt744.1 0).f0)) else (some (bt744.1, bt748.1, bt748.2.1)))) else (some (bt744.1, bt748.1, bt748.2.1))) else (none)) else (some (bt744.1, bt748.1, bt748.2.1)))))

/-! ### spec_l1Max: function 71 -/
def spec_l1Max.f (a0 : Int) (a1 : Int) : Option (Int) := if a0 > a1 then (some a0) else (some a1)

/-! ### spec_DrawPushVersion: function 40 -/
def spec_DrawPushVersion.j0 : Nat → List (S58) → List Int → Int → Int → Int → Option ((List (S58)) × Int × Int × Bool × Int)
  | 0, _, _, _, _, _ => none
  | k + 1, x7, x760000, x760001, x766000, x766001 => (spec_l1Chance.f x760000 x760001 4).bind fun bt770 => (if bt770.1 = true then ((spec_l1Pick.f x760000 bt770.2 (([0, 0, 0, 5] : List Int))).bind fun bt775 => (some (x7, x766000, x766001, true, bt775.1))) else ((spec_l1Next.f x760000 bt770.2 90).bind fun bt777 => ((spec_l1Pick.f x760000 bt777.2 (([bt777.1, 9999, 10000, (-1)] : List Int))).bind fun bt782 => (some (x7, x766000, x766001, false, bt782.1)))))
def spec_DrawPushVersion.f (k : Nat) (l0 : List Int) : Option ((List (S58)) × Int × Int × Bool × Int) := (spec_l1Source.f l0).bind fun bt757 => ((spec_l5With.f k l0).bind fun bt760 => ((spec_l1Chance.f bt757.1 bt757.2 2).bind fun bt766 => (if bt766.1 = true then ((spec_l5Writer.f bt760.1).bind fun t768 => ((spec_l1Max.f 1 t768).bind fun t769 => (spec_DrawPushVersion.j0 k bt760.1 bt757.1 bt766.2 900 t769))) else (spec_DrawPushVersion.j0 k bt760.1 bt757.1 bt766.2 bt760.2.1 bt760.2.2))))

end Go.Proofs.Ytlabafjldndcgaa.P
