/-
  No cell of these rows narrows 'for every input' (looked for: loops, veiled, ifaces, maps, wideKeys, modest, calm, conditions, laid).
  DERIVED. THE GIVEN ROWS OF THIS SEAT. 2 by the template 'for every input the law returns true; each argument reads behind the call as it read before'; 0 by the template 'total and deterministic' (their statements: YtocdahbinombkaaGreatTotals.lean).
  GIVEN WITH THE SEED: the statements are not yours to turn. If you find one false, say at which input.
  Laid BY PROGRAM, IN A SANDBOX (cutbox-rows.mjs): the forced cells as the released guide's own fill.sh prints them over the translation b41e6f9ec524cd00… (all of the seat's roots in one cut). By AI agents, Wed Nov 11 2026. No macro, syntax, notation, axiom, sorry.
-/
import Derived.Test.YtocdahbinombkaaGreatChecked
import GoSem.Claim
import GoSem.ClaimJoined
import GoSem.ClaimMapViews
import Derived.JoinedTies
import Derived.KernelRfl
namespace Go.Proofs.YtocdahbinombkaaGreat
/- THE CELL 'sum', in the pinned program and in every row, IS THE sha256 OF THE DUMP (.gsa) THAT YtocdahbinombkaaGreatProg.lean LOADS. Nothing in Lean hashes anything: it is a label: what it is worth is what the hold of that sum in a sandbox is worth. -/
noncomputable def Tryz.pinned : Pinned := { name := "ytocdahbinombkaagreat", sum := "b41e6f9ec524cd001b39117703da6a982b1f896e5a316a4d3124038edebae482", checked := Tryz.checked }
namespace Rows
def none {H : Type} : Left H := { results := [], args := [] }

/-- 'laws.FnExactIndexFault': WHATEVER THE INPUT: true; the input reads as it did. -/
def fnExactIndexFaultSpec : ChangeSpec := { name := "fnExactIndexFault", fn := fun _ => fun
  | [d1, d2] => { results := [.lit (.bool true)], args := [d1, d2] }
  | _ => none }
def fnExactIndexFaultRow : OpenClaim := { program := "ytocdahbinombkaagreat", sum := "b41e6f9ec524cd001b39117703da6a982b1f896e5a316a4d3124038edebae482", func := "loop.example/g00216/laws.FnExactIndexFault", spec := "fnExactIndexFault", unfollowed := true, recurses := true, apart := false }
def FnExactIndexFaultSaid : Prop := fnExactIndexFaultRow.holds Tryz.pinned (OpenSpec.ofChange fnExactIndexFaultSpec)

/-- ITS FALSE NEIGHBOUR: 'it returns false'. Refute it at one input. -/
def fnExactIndexFaultWrong : ChangeSpec := { name := "fnExactIndexFault", fn := fun _ => fun
  | [d1, d2] => { results := [.lit (.bool false)], args := [d1, d2] }
  | _ => none }
def FnExactIndexFaultWrongFalsely : Prop := fnExactIndexFaultRow.holds Tryz.pinned (OpenSpec.ofChange fnExactIndexFaultWrong)

/-- 'laws.FnExactBuildIndex': WHATEVER THE INPUT: true; the input reads as it did. -/
def fnExactBuildIndexSpec : ChangeSpec := { name := "fnExactBuildIndex", fn := fun _ => fun
  | [d] => { results := [.lit (.bool true)], args := [d] }
  | _ => none }
def fnExactBuildIndexRow : OpenClaim := { program := "ytocdahbinombkaagreat", sum := "b41e6f9ec524cd001b39117703da6a982b1f896e5a316a4d3124038edebae482", func := "loop.example/g00216/laws.FnExactBuildIndex", spec := "fnExactBuildIndex", unfollowed := true, recurses := true, apart := false }
def FnExactBuildIndexSaid : Prop := fnExactBuildIndexRow.holds Tryz.pinned (OpenSpec.ofChange fnExactBuildIndexSpec)

/-- ITS FALSE NEIGHBOUR: 'it returns false'. Refute it at one input. -/
def fnExactBuildIndexWrong : ChangeSpec := { name := "fnExactBuildIndex", fn := fun _ => fun
  | [d] => { results := [.lit (.bool false)], args := [d] }
  | _ => none }
def FnExactBuildIndexWrongFalsely : Prop := fnExactBuildIndexRow.holds Tryz.pinned (OpenSpec.ofChange fnExactBuildIndexWrong)

/- THE SECOND FORM. 'bulk': how many values and letters a reading holds, each counted each time it is reached (what is shared counts as often as it is met; a slice's spare places count too). A statement '..UptoSaid' is the law's where the arguments, and the package variables that the reading takes, are together of bulk at most 1048576: NARROWER than '..Said'. Prove '..Said' where nothing that the law and all that it calls make is longer than what came in: it says more and counts as full. Else prove '..UptoSaid'. A law counts once. -/
mutual
def uptoBulk {H : Type} : DataW H → Nat
  | .lit (.string bytes) => bytes.length + 1
  | .lit _ => 1
  | .nil => 1
  | .ptr d => uptoBulk d + 1
  | .slice elems spare => uptoBulkAll elems + uptoBulkAll spare + 1
  | .agg parts => uptoBulkAll parts + 1
  | .iface _ d => uptoBulk d + 1
  | .map entries => uptoBulkEntries entries + 1
  | .held _ => 1
def uptoBulkAll {H : Type} : List (DataW H) → Nat
  | [] => 0
  | d :: r => uptoBulk d + uptoBulkAll r
def uptoBulkEntries {H : Type} : List (Lit × DataW H) → Nat
  | [] => 0
  | x :: r => uptoBulkEntry x + uptoBulkEntries r
def uptoBulkEntry {H : Type} : Lit × DataW H → Nat
  | (.string bytes, d) => bytes.length + uptoBulk d + 1
  | (_, d) => uptoBulk d + 1
 end
def uptoSmall : (H : Type) → List (DataW H) → Bool := fun _ ds => decide (uptoBulkAll ds ≤ 1048576)
def OpenSpec.upto (s : _root_.Go.ChangeSpec) : _root_.Go.OpenSpec := { _root_.Go.OpenSpec.ofChange s with cond := some uptoSmall }

/-- 'laws.FnExactIndexFault', WHERE WHAT IT READS IS OF BULK AT MOST 1048576: true; the input reads as it did. -/
def fnExactIndexFaultUptoRow : OpenClaim := { program := "ytocdahbinombkaagreat", sum := "b41e6f9ec524cd001b39117703da6a982b1f896e5a316a4d3124038edebae482", func := "loop.example/g00216/laws.FnExactIndexFault", spec := "fnExactIndexFault", unfollowed := true, recurses := true, apart := false, narrowed := true }
def FnExactIndexFaultUptoSaid : Prop := fnExactIndexFaultUptoRow.holds Tryz.pinned (OpenSpec.upto fnExactIndexFaultSpec)

/-- 'laws.FnExactBuildIndex', WHERE WHAT IT READS IS OF BULK AT MOST 1048576: true; the input reads as it did. -/
def fnExactBuildIndexUptoRow : OpenClaim := { program := "ytocdahbinombkaagreat", sum := "b41e6f9ec524cd001b39117703da6a982b1f896e5a316a4d3124038edebae482", func := "loop.example/g00216/laws.FnExactBuildIndex", spec := "fnExactBuildIndex", unfollowed := true, recurses := true, apart := false, narrowed := true }
def FnExactBuildIndexUptoSaid : Prop := fnExactBuildIndexUptoRow.holds Tryz.pinned (OpenSpec.upto fnExactBuildIndexSpec)

end Rows
end Go.Proofs.YtocdahbinombkaaGreat
