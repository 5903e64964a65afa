/- The row of the law FnExactBuildIndex: out of its pure statement and the printed contract. -/
import Derived.Test.YtocdahbinombkaaGreatRows
import Derived.Test.YtocdahbinombkaaGreatWf
import Derived.Test.YtocdahbinombkaaGreatPCb1
import Derived.Test.YtocdahbinombkaaGreatPureFnExactBuildIndex
import Derived.WalkKit
import Derived.ProofKit
import Derived.OpenShut
import Derived.ShutString
import Derived.ChangeOld
import Derived.Below
import Derived.SizedLaws
namespace Go.Proofs.YtocdahbinombkaaGreat.fnExactBuildIndex
open Go.ChangeShapes Go.WideShapes Go.ChangeAt Go.RowKit Go.Proofs.YtocdahbinombkaaGreat.P Go.Proofs.YtocdahbinombkaaGreat.Op Go.Proofs.YtocdahbinombkaaGreatW.PrintWords
open Go.ChangeMaps (open_string shut_string)
set_option linter.unusedVariables false
theorem own : ownKnob Tryz.prog.godebug = none := by kernel_rfl
theorem laidOut : laidOutB Tryz.prog = true := by kernel_rfl
set_option maxRecDepth 100000 in
theorem lifted (os : Os) (started : os.Started) (H : Type) (enc : TypeId × Value → H) :
    ReturnsInHanded {} Tryz.checked os 4 .any (Rows.fnExactBuildIndexSpec.pre6 enc Tryz.prog Tryz.f4 Rows.fnExactBuildIndexRow.domain false) (Rows.fnExactBuildIndexSpec.post enc Tryz.prog Tryz.f4 false true false false) := by
  refine returnsInHanded_of_change_sized (C := Tryz.checked) own started (by kernel_rfl) Tryz.func4
    (ChangeSpec.witness6 (enc := enc) (C := Tryz.checked) false ⟨#[], #[.agg #[.int .i64 0, .int .i64 0, .slice none 0 0, .slice none 0 0]], []⟩ 8 (by kernel_rfl) (by kernel_rfl) (by kernel_rfl) (by kernel_rfl)) ?_
  intro W base args ds gs before hval0 hW hcnd hsz0 _
  have hsz : (DataW.weightsEach Tryz.prog (Tryz.f4.params.toList ++ Rows.fnExactBuildIndexSpec.plain.varTypes Tryz.prog) (ds ++ gs)).all (· ≤ reachBytes) = true := hsz0
  have hval : ∀ (j : Nat) t v, Tryz.f4.params[j]? = some t → args[j]? = some v → Value.okWide Tryz.prog W .any base t v := hval0
  have hW' := hW
  obtain ⟨p, q, hA0, hV, rfl, hfz, hnd⟩ := hW
  have hA : DataW.TrodAll enc Tryz.prog W 0 (fun _ => true) true Tryz.f4.params.toList args.toList ds p := hA0
  rw [Tryz.params4] at hA hval hsz
  obtain ⟨v0, vs0, d0, ds0, p0, q0, hargs, rfl, rfl, h0, r0⟩ := trodAll_cons hA
  obtain ⟨rfl, rfl, rfl⟩ := trodAll_nil r0
  obtain rfl : args = #[v0] := by cases args; simp_all
  obtain ⟨rfl, rfl⟩ := trodVars_none hV
  have k0 := h0
  have lt0 : ∀ x ∈ p0, x.block < W.heap.size := by obtain ⟨m, hm⟩ := k0; exact DataW.trod_lt m _ _ _ hm
  obtain ⟨cs0, y0, rfl, hK0, w0⟩ := open_struct_arg Tryz.underlying25 opens25 (hval 0 25 v0 rfl rfl) h0 (weights_le hsz (j := 0) rfl rfl)
  obtain ⟨A0_2, c0_2, A0_3, c0_3, hcs0, hc0_2, hr0_2, hc0_3, hr0_3⟩ := k25_open hK0
  obtain rfl : cs0 = #[.int .i64 y0.f0, .int .i64 y0.f1, .slice A0_2 y0.f2.length c0_2, .slice A0_3 y0.f3.length c0_3] := by cases cs0; simp_all
  clear hA0 hval0 hsz0 hsz
  obtain ⟨k, h⟩ := Pure.FnExactBuildIndex y0.f0 y0.f1 y0.f2 y0.f3 w0.1 w0.2.1 w0.2.2.1 w0.2.2.2
  refine (laws_FnExactBuildIndex.calls k y0.f0 y0.f1 A0_2 c0_2 y0.f2 A0_3 c0_3 y0.f3 W hr0_2 hc0_2 hr0_3 hc0_3 h).mono ?_
  rintro e W' ⟨rfl, hd⟩
  have bel : Below W.heap.size W W' := hd
  exact ⟨_, rfl, _, _, _, [], _, [], hW', trodAll_mk1 (shut_bool Tryz.underlying4 _), (trodAll_cons_mk (Below.trod laidOut (by kernel_rfl) (of_decide_eq_true (by kernel_rfl)) k0 bel lt0) trodAll_mk0), rfl, bel.frame _, fun h => by cases h⟩
theorem over : Rows.fnExactBuildIndexRow.holds Tryz.pinned (OpenSpec.ofChange Rows.fnExactBuildIndexSpec) :=
  OpenClaim.holds_of_wide 4 Tryz.f4 rfl rfl rfl rfl rfl rfl rfl ⟨rfl, rfl, rfl, rfl, rfl⟩ rfl rfl rfl rfl rfl (by kernel_rfl) Tryz.func4 (by kernel_rfl)
    (of_decide_eq_true (by kernel_rfl)) (by unfold Func.isWrapper; first | (rw [if_pos (by decide +kernel)]; kernel_rfl) | (rw [if_neg (by decide +kernel)]; exact ⟨rfl, rfl⟩))
    (fun os started H enc _ => lifted os started H enc)
theorem proved : Rows.FnExactBuildIndexSaid := over
#print axioms proved
end Go.Proofs.YtocdahbinombkaaGreat.fnExactBuildIndex
namespace Go.Proofs.YtocdahbinombkaaGreat
/-- The row, under a short name, for the claim. -/
theorem fnExactBuildIndex_holds : Rows.FnExactBuildIndexSaid := fnExactBuildIndex.proved
end Go.Proofs.YtocdahbinombkaaGreat
