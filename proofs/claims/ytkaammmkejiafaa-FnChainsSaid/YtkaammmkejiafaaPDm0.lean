-- Printed by this session's own program over the kit's print (wip/tools/mp.py). Not trusted: Lean checks it.
import Derived.Test.YtkaammmkejiafaaP0
import Derived.Test.YtkaammmkejiafaaPDall0
namespace Go.Proofs.Ytkaammmkejiafaa.P
open Go.RowKit Go.Proofs.YtkaammmkejiafaaW.PrintWords Go.Proofs.YtkaammmkejiafaaW.PrintLast Go.Proofs.YtkaammmkejiafaaW.PrintMore
attribute [local go_sem] max2_int min2_int max_two min_two max_three min_three max_four min_four   -- for this text's walks alone
set_option linter.unusedVariables false
set_option linter.unusedSimpArgs false

/-! ### spec_DrawPurgeChain: function 6 -/
def spec_DrawPurgeChain.f (k : Nat) (l0 : List Int) : Option ((List (S51)) × Int) := (spec_l1Source.f l0).bind fun bt178 => ((spec_l5Bent.f k bt178.1 bt178.2).bind fun bt181 => ((spec_l1Next.f bt178.1 bt181.2 40).bind fun bt185 => ((spec_l1Next.f bt178.1 bt185.2 40).bind fun bt187 => ((spec_l1Pick.f bt178.1 bt187.2 (([wrap64 (30 + bt185.1), wrap64 (30 + bt187.1), 0, 1000000, 1000001, (-1)] : List Int))).bind fun bt192 => (some (bt181.1, bt192.1))))))

/-! ### impl_purged: function 24 -/
def impl_purged.l0 : Nat → Int → List (S51) → List (S51) → Int → Int → Option ((List (S51)))
  | 0, _, _, _, _, _ => none
  | k + 1, x1, x5, x10, x11, x12 => if x12 < x11 then (if 0 ≤ x12 then (if x12 < (x10.length : Int) then (if x5.length < 4398046511104 then ((some (x5 ++ [(⟨(rd_T51 x10 x12).f0, (rd_T51 x10 x12).f1, (rd_T51 x10 x12).f2, (rd_T51 x10 x12).f3⟩ : S51)] : List (S51))).bind fun y209 => (if ((rd_T51 x10 x12).f1) > 0 then (if ((rd_T51 x10 x12).f1) ≤ x1 then (if (y209.length : Int) > 0 then (if 0 ≤ (wrap64 ((y209.length : Int) - 1)) then (if (wrap64 ((y209.length : Int) - 1)) < (y209.length : Int) then (if (rd_T51 y209 (wrap64 ((y209.length : Int) - 1))).f2 = true then (if ((rd_T51 y209 (wrap64 ((y209.length : Int) - 1))).f1) > 0 then (if ((rd_T51 y209 (wrap64 ((y209.length : Int) - 1))).f1) ≤ x1 then (if (wrap64 ((y209.length : Int) - 1)) ≤ (y209.length : Int) then (some (y209.take ((wrap64 ((y209.length : Int) - 1)) : Int).toNat)) else (none)) else (some y209)) else (some y209)) else (some y209)) else (none)) else (none)) else (some y209)) else (impl_purged.l0 k x1 y209 x10 x11 (wrap64 (x12 + 1)))) else (impl_purged.l0 k x1 y209 x10 x11 (wrap64 (x12 + 1))))) else (none)) else (none)) else (none)) else (if (x5.length : Int) > 0 then (if 0 ≤ (wrap64 ((x5.length : Int) - 1)) then (if (wrap64 ((x5.length : Int) - 1)) < (x5.length : Int) then (if (rd_T51 x5 (wrap64 ((x5.length : Int) - 1))).f2 = true then (if ((rd_T51 x5 (wrap64 ((x5.length : Int) - 1))).f1) > 0 then (if ((rd_T51 x5 (wrap64 ((x5.length : Int) - 1))).f1) ≤ x1 then (if (wrap64 ((x5.length : Int) - 1)) ≤ (x5.length : Int) then (some (x5.take ((wrap64 ((x5.length : Int) - 1)) : Int).toNat)) else (none)) else (some x5)) else (some x5)) else (some x5)) else (none)) else (none)) else (some x5))
def impl_purged.f (k : Nat) (l0 : List (S51)) (a1 : Int) : Option ((List (S51))) := impl_purged.l0 k a1 (([] : List (S51))) l0 (l0.length : Int) 0

/-! ### impl_PurgeChain: function 7 -/
def impl_PurgeChain.j0 : Nat → List (S51) → Int → Int → Bool → Option (Int × (List (S51)))
  | 0, _, _, _, _ => none
  | k + 1, x0, x1, x5, x14 => if x14 = true then (some (3, ([] : List (S51)))) else (if x5 = 0 then ((impl_purged.f k x0 x1).bind fun t227 => (some (0, t227))) else (some (x5, ([] : List (S51)))))
def impl_PurgeChain.f (k : Nat) (l0 : List (S51)) (a1 : Int) : Option (Int × (List (S51))) := (impl_ChainFault.f k l0).bind fun t225 => (if t225 = 0 then ((impl_isLsn.f a1).bind fun t226 => (impl_PurgeChain.j0 k l0 a1 t225 (!t226))) else (impl_PurgeChain.j0 k l0 a1 t225 false))

/-! ### spec_l5Purge: function 27 -/
def spec_l5Purge.l0 : Nat → List (S51) → Int → List (S51) → Int → Option ((List (S51)))
  | 0, _, _, _, _ => none
  | k + 1, x0, x1, x5, x6 => if x6 < (x0.length : Int) then (if 0 ≤ x6 then (if x5.length < 4398046511104 then ((some (x5 ++ [(⟨(rd_T51 x0 x6).f0, (rd_T51 x0 x6).f1, (rd_T51 x0 x6).f2, (rd_T51 x0 x6).f3⟩ : S51)] : List (S51))).bind fun y247 => (if ((rd_T51 x0 x6).f1) = 0 then (spec_l5Purge.l0 k x0 x1 y247 (wrap64 (x6 + 1))) else (if ((rd_T51 x0 x6).f1) ≤ x1 then (if (y247.length : Int) > 0 then (if 0 ≤ (wrap64 ((y247.length : Int) - 1)) then (if (wrap64 ((y247.length : Int) - 1)) < (y247.length : Int) then (if (rd_T51 y247 (wrap64 ((y247.length : Int) - 1))).f2 = true then (if ((rd_T51 y247 (wrap64 ((y247.length : Int) - 1))).f1) = 0 then (some y247) else (if ((rd_T51 y247 (wrap64 ((y247.length : Int) - 1))).f1) ≤ x1 then (if (wrap64 ((y247.length : Int) - 1)) ≤ (y247.length : Int) then (some (y247.take ((wrap64 ((y247.length : Int) - 1)) : Int).toNat)) else (none)) else (some y247))) else (some y247)) else (none)) else (none)) else (some y247)) else (spec_l5Purge.l0 k x0 x1 y247 (wrap64 (x6 + 1)))))) else (none)) else (none)) else (if (x5.length : Int) > 0 then (if 0 ≤ (wrap64 ((x5.length : Int) - 1)) then (if (wrap64 ((x5.length : Int) - 1)) < (x5.length : Int) then (if (rd_T51 x5 (wrap64 ((x5.length : Int) - 1))).f2 = true then (if ((rd_T51 x5 (wrap64 ((x5.length : Int) - 1))).f1) = 0 then (some x5) else (if ((rd_T51 x5 (wrap64 ((x5.length : Int) - 1))).f1) ≤ x1 then (if (wrap64 ((x5.length : Int) - 1)) ≤ (x5.length : Int) then (some (x5.take ((wrap64 ((x5.length : Int) - 1)) : Int).toNat)) else (none)) else (some x5))) else (some x5)) else (none)) else (none)) else (some x5))
def spec_l5Purge.f (k : Nat) (l0 : List (S51)) (a1 : Int) : Option ((List (S51))) := spec_l5Purge.l0 k l0 a1 (([] : List (S51))) 0

/-! ### spec_PurgeChain: function 8 -/
def spec_PurgeChain.f (k : Nat) (l0 : List (S51)) (a1 : Int) : Option (Int × (List (S51))) := (spec_ChainFault.f k l0).bind fun t265 => (if t265 = 0 then ((spec_l1In.f a1 0 1000000).bind fun t266 => (if t266 = true then ((spec_l5Purge.f k l0 a1).bind fun t267 => (some (0, t267))) else (some (3, ([] : List (S51)))))) else (some (t265, ([] : List (S51)))))

/-! ### laws_FnPurges: function 3 -/
mutual
def laws_FnPurges.j0 : Nat → List (S51) → Int → Bool → Int → List (S51) → Option (Bool)
  | 0, _, _, _, _, _ => none
  | k + 1, x3, x4, x53, x302000, x302001 => if x53 = true then (some false) else (laws_FnPurges.l0 k x3 x4 0 x302000 x302001)
def laws_FnPurges.l0 : Nat → List (S51) → Int → Int → Int → List (S51) → Option (Bool)
  | 0, _, _, _, _, _ => none
  | k + 1, x3, x4, x6, x302000, x302001 => if x6 < 40 then (if x6 > 30 then (laws_FnPurges.j2 k x3 x4 x6 (wrap64 (x4 + x6)) (decide (x4 < 900)) x302000 x302001) else (laws_FnPurges.j2 k x3 x4 x6 (wrap64 (x4 + x6)) false x302000 x302001)) else ((impl_PurgeChain.f k x302001 x4).bind fun bt311 => (if bt311.1 = 0 then (some ((bt311.2.length : Int) == (x302001.length : Int))) else (some false)))
def laws_FnPurges.j2 : Nat → List (S51) → Int → Int → Int → Bool → Int → List (S51) → Option (Bool)
  | 0, _, _, _, _, _, _, _ => none
  | k + 1, x3, x4, x6, x7, x66, x302000, x302001 => if x66 = true then (laws_FnPurges.j3 k x3 x4 x6 (wrap64 (60 + x6)) x302000 x302001) else (laws_FnPurges.j3 k x3 x4 x6 x7 x302000 x302001)
def laws_FnPurges.j3 : Nat → List (S51) → Int → Int → Int → Int → List (S51) → Option (Bool)
  | 0, _, _, _, _, _, _ => none
  | k + 1, x3, x4, x6, x7, x302000, x302001 => if x7 > 1000000 then (laws_FnPurges.j4 k x3 x4 x6 x7 true x302000 x302001) else (laws_FnPurges.j4 k x3 x4 x6 x7 (decide (x7 < x4)) x302000 x302001)
def laws_FnPurges.j4 : Nat → List (S51) → Int → Int → Int → Bool → Int → List (S51) → Option (Bool)
  | 0, _, _, _, _, _, _, _ => none
  | k + 1, x3, x4, x6, x7, x75, x302000, x302001 => if x75 = true then (laws_FnPurges.l0 k x3 x4 (wrap64 (x6 + 1)) x302000 x302001) else (laws_FnPurges.l1 k x3 x4 x6 x7 0 x302000 x302001)
def laws_FnPurges.l1 : Nat → List (S51) → Int → Int → Int → Int → Int → List (S51) → Option (Bool)
  | 0, _, _, _, _, _, _, _ => none
  | k + 1, x3, x4, x6, x7, x8, x302000, x302001 => if x8 < 4 then ((impl_SeenIn.f k x302001 x7 x8).bind fun bt317 => ((impl_SeenIn.f k x3 x7 x8).bind fun bt319 => (if (!(bt317.1 == bt319.1) || (!(bt317.2 == bt319.2))) = true then (some false) else ((impl_MayWrite.f k x302001 x7 x8).bind fun t321 => ((impl_MayWrite.f k x3 x7 x8).bind fun t322 => (if t321 = t322 then (laws_FnPurges.l1 k x3 x4 x6 x7 (wrap64 (x8 + 1)) x302000 x302001) else (some false))))))) else (laws_FnPurges.l0 k x3 x4 (wrap64 (x6 + 1)) x302000 x302001)
end
def laws_FnPurges.f (k : Nat) (l0 : List Int) : Option (Bool) := (laws_lwBig.f l0).bind fun t292 => (if t292 = true then (some true) else ((spec_DrawPurgeChain.f k l0).bind fun bt293 => ((impl_PurgeChain.f k bt293.1 bt293.2).bind fun bt297 => (if bt297.1 = 0 then ((impl_ChainFault.f k bt297.2).bind fun t306 => (if t306 = 0 then (if (bt297.2.length : Int) > (bt293.1.length : Int) then (laws_FnPurges.j0 k bt293.1 bt293.2 true bt297.1 bt297.2) else ((spec_PurgeChain.f k bt293.1 bt293.2).bind fun bt307 => (laws_FnPurges.j0 k bt293.1 bt293.2 ((bt297.2.length : Int) != (bt307.2.length : Int)) bt297.1 bt297.2))) else (laws_FnPurges.j0 k bt293.1 bt293.2 true bt297.1 bt297.2))) else ((spec_PurgeChain.f k bt293.1 bt293.2).bind fun bt302 => (some (bt302.1 == bt297.1)))))))

end Go.Proofs.Ytkaammmkejiafaa.P
