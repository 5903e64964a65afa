/-
  No cell of these rows narrows 'for every input' (looked for: loops, veiled, ifaces, maps, wideKeys, modest, calm, conditions, laid).
  DERIVED. THE GIVEN ROWS OF THIS SEAT. 6 by the template 'for every input the law returns true; each argument reads behind the call as it read before'; 0 by the template 'total and deterministic' (their statements: YtdhdgkonghefeaaTotals.lean).
  GIVEN WITH THE SEED: the statements are not yours to turn. If you find one false, say at which input.
  Laid BY PROGRAM, IN A SANDBOX (cutbox-rows.mjs): the forced cells as the released guide's own fill.sh prints them over the translation bf2d88d744d77148… (all of the seat's roots in one cut). By AI agents, Wed Nov 11 2026. No macro, syntax, notation, axiom, sorry.
-/
import Derived.Test.YtdhdgkonghefeaaChecked
import GoSem.Claim
import GoSem.ClaimJoined
import GoSem.ClaimMapViews
import Derived.JoinedTies
import Derived.KernelRfl
namespace Go.Proofs.Ytdhdgkonghefeaa
/- THE CELL 'sum', in the pinned program and in every row, IS THE sha256 OF THE DUMP (.gsa) THAT YtdhdgkonghefeaaProg.lean LOADS. Nothing in Lean hashes anything: it is a label: what it is worth is what the hold of that sum in a sandbox is worth. -/
noncomputable def Try.pinned : Pinned := { name := "ytdhdgkonghefeaa", sum := "bf2d88d744d771485cd8d3cf6c08c276f967b88af72c689c11cfec0bdd6b3588", checked := Try.checked }
namespace Rows
def none {H : Type} : Left H := { results := [], args := [] }

/-- 'laws.FnExactTreeFault': WHATEVER THE INPUT: true; the input reads as it did. -/
def fnExactTreeFaultSpec : ChangeSpec := { name := "fnExactTreeFault", fn := fun _ => fun
  | [d] => { results := [.lit (.bool true)], args := [d] }
  | _ => none }
def fnExactTreeFaultRow : OpenClaim := { program := "ytdhdgkonghefeaa", sum := "bf2d88d744d771485cd8d3cf6c08c276f967b88af72c689c11cfec0bdd6b3588", func := "loop.example/g00216/laws.FnExactTreeFault", spec := "fnExactTreeFault", unfollowed := true, recurses := true, apart := false }
def FnExactTreeFaultSaid : Prop := fnExactTreeFaultRow.holds Try.pinned (OpenSpec.ofChange fnExactTreeFaultSpec)

/-- ITS FALSE NEIGHBOUR: 'it returns false'. Refute it at one input. -/
def fnExactTreeFaultWrong : ChangeSpec := { name := "fnExactTreeFault", fn := fun _ => fun
  | [d] => { results := [.lit (.bool false)], args := [d] }
  | _ => none }
def FnExactTreeFaultWrongFalsely : Prop := fnExactTreeFaultRow.holds Try.pinned (OpenSpec.ofChange fnExactTreeFaultWrong)

/-- 'laws.FnExactHasKey': WHATEVER THE INPUT: true; the input reads as it did. -/
def fnExactHasKeySpec : ChangeSpec := { name := "fnExactHasKey", fn := fun _ => fun
  | [d1, d2] => { results := [.lit (.bool true)], args := [d1, d2] }
  | _ => none }
def fnExactHasKeyRow : OpenClaim := { program := "ytdhdgkonghefeaa", sum := "bf2d88d744d771485cd8d3cf6c08c276f967b88af72c689c11cfec0bdd6b3588", func := "loop.example/g00216/laws.FnExactHasKey", spec := "fnExactHasKey", unfollowed := true, recurses := true, apart := false }
def FnExactHasKeySaid : Prop := fnExactHasKeyRow.holds Try.pinned (OpenSpec.ofChange fnExactHasKeySpec)

/-- ITS FALSE NEIGHBOUR: 'it returns false'. Refute it at one input. -/
def fnExactHasKeyWrong : ChangeSpec := { name := "fnExactHasKey", fn := fun _ => fun
  | [d1, d2] => { results := [.lit (.bool false)], args := [d1, d2] }
  | _ => none }
def FnExactHasKeyWrongFalsely : Prop := fnExactHasKeyRow.holds Try.pinned (OpenSpec.ofChange fnExactHasKeyWrong)

/-- 'laws.FnExactDepthOf': WHATEVER THE INPUT: true; the input reads as it did. -/
def fnExactDepthOfSpec : ChangeSpec := { name := "fnExactDepthOf", fn := fun _ => fun
  | [d] => { results := [.lit (.bool true)], args := [d] }
  | _ => none }
def fnExactDepthOfRow : OpenClaim := { program := "ytdhdgkonghefeaa", sum := "bf2d88d744d771485cd8d3cf6c08c276f967b88af72c689c11cfec0bdd6b3588", func := "loop.example/g00216/laws.FnExactDepthOf", spec := "fnExactDepthOf", unfollowed := true, recurses := true, apart := false }
def FnExactDepthOfSaid : Prop := fnExactDepthOfRow.holds Try.pinned (OpenSpec.ofChange fnExactDepthOfSpec)

/-- ITS FALSE NEIGHBOUR: 'it returns false'. Refute it at one input. -/
def fnExactDepthOfWrong : ChangeSpec := { name := "fnExactDepthOf", fn := fun _ => fun
  | [d] => { results := [.lit (.bool false)], args := [d] }
  | _ => none }
def FnExactDepthOfWrongFalsely : Prop := fnExactDepthOfRow.holds Try.pinned (OpenSpec.ofChange fnExactDepthOfWrong)

/-- 'laws.FnExactPathTo': WHATEVER THE INPUT: true; the input reads as it did. -/
def fnExactPathToSpec : ChangeSpec := { name := "fnExactPathTo", fn := fun _ => fun
  | [d1, d2] => { results := [.lit (.bool true)], args := [d1, d2] }
  | _ => none }
def fnExactPathToRow : OpenClaim := { program := "ytdhdgkonghefeaa", sum := "bf2d88d744d771485cd8d3cf6c08c276f967b88af72c689c11cfec0bdd6b3588", func := "loop.example/g00216/laws.FnExactPathTo", spec := "fnExactPathTo", unfollowed := true, recurses := true, apart := false }
def FnExactPathToSaid : Prop := fnExactPathToRow.holds Try.pinned (OpenSpec.ofChange fnExactPathToSpec)

/-- ITS FALSE NEIGHBOUR: 'it returns false'. Refute it at one input. -/
def fnExactPathToWrong : ChangeSpec := { name := "fnExactPathTo", fn := fun _ => fun
  | [d1, d2] => { results := [.lit (.bool false)], args := [d1, d2] }
  | _ => none }
def FnExactPathToWrongFalsely : Prop := fnExactPathToRow.holds Try.pinned (OpenSpec.ofChange fnExactPathToWrong)

/-- 'laws.FnExactKeysIn': WHATEVER THE INPUT: true; the input reads as it did. -/
def fnExactKeysInSpec : ChangeSpec := { name := "fnExactKeysIn", fn := fun _ => fun
  | [d1, d2, d3] => { results := [.lit (.bool true)], args := [d1, d2, d3] }
  | _ => none }
def fnExactKeysInRow : OpenClaim := { program := "ytdhdgkonghefeaa", sum := "bf2d88d744d771485cd8d3cf6c08c276f967b88af72c689c11cfec0bdd6b3588", func := "loop.example/g00216/laws.FnExactKeysIn", spec := "fnExactKeysIn", unfollowed := true, recurses := true, apart := false }
def FnExactKeysInSaid : Prop := fnExactKeysInRow.holds Try.pinned (OpenSpec.ofChange fnExactKeysInSpec)

/-- ITS FALSE NEIGHBOUR: 'it returns false'. Refute it at one input. -/
def fnExactKeysInWrong : ChangeSpec := { name := "fnExactKeysIn", fn := fun _ => fun
  | [d1, d2, d3] => { results := [.lit (.bool false)], args := [d1, d2, d3] }
  | _ => none }
def FnExactKeysInWrongFalsely : Prop := fnExactKeysInRow.holds Try.pinned (OpenSpec.ofChange fnExactKeysInWrong)

/-- 'laws.FnRanges': WHATEVER THE INPUT: true; the input reads as it did. -/
def fnRangesSpec : ChangeSpec := { name := "fnRanges", fn := fun _ => fun
  | [d] => { results := [.lit (.bool true)], args := [d] }
  | _ => none }
def fnRangesRow : OpenClaim := { program := "ytdhdgkonghefeaa", sum := "bf2d88d744d771485cd8d3cf6c08c276f967b88af72c689c11cfec0bdd6b3588", func := "loop.example/g00216/laws.FnRanges", spec := "fnRanges", unfollowed := true, recurses := true, apart := false }
def FnRangesSaid : Prop := fnRangesRow.holds Try.pinned (OpenSpec.ofChange fnRangesSpec)

/-- ITS FALSE NEIGHBOUR: 'it returns false'. Refute it at one input. -/
def fnRangesWrong : ChangeSpec := { name := "fnRanges", fn := fun _ => fun
  | [d] => { results := [.lit (.bool false)], args := [d] }
  | _ => none }
def FnRangesWrongFalsely : Prop := fnRangesRow.holds Try.pinned (OpenSpec.ofChange fnRangesWrong)

/- THE SECOND FORM. 'bulk': how many values and letters a reading holds, each counted each time it is reached (what is shared counts as often as it is met; a slice's spare places count too). A statement '..UptoSaid' is the law's where the arguments, and the package variables that the reading takes, are together of bulk at most 1048576: NARROWER than '..Said'. Prove '..Said' where nothing that the law and all that it calls make is longer than what came in: it says more and counts as full. Else prove '..UptoSaid'. A law counts once. -/
mutual
def uptoBulk {H : Type} : DataW H → Nat
  | .lit (.string bytes) => bytes.length + 1
  | .lit _ => 1
  | .nil => 1
  | .ptr d => uptoBulk d + 1
  | .slice elems spare => uptoBulkAll elems + uptoBulkAll spare + 1
  | .agg parts => uptoBulkAll parts + 1
  | .iface _ d => uptoBulk d + 1
  | .map entries => uptoBulkEntries entries + 1
  | .held _ => 1
def uptoBulkAll {H : Type} : List (DataW H) → Nat
  | [] => 0
  | d :: r => uptoBulk d + uptoBulkAll r
def uptoBulkEntries {H : Type} : List (Lit × DataW H) → Nat
  | [] => 0
  | x :: r => uptoBulkEntry x + uptoBulkEntries r
def uptoBulkEntry {H : Type} : Lit × DataW H → Nat
  | (.string bytes, d) => bytes.length + uptoBulk d + 1
  | (_, d) => uptoBulk d + 1
 end
def uptoSmall : (H : Type) → List (DataW H) → Bool := fun _ ds => decide (uptoBulkAll ds ≤ 1048576)
def OpenSpec.upto (s : _root_.Go.ChangeSpec) : _root_.Go.OpenSpec := { _root_.Go.OpenSpec.ofChange s with cond := some uptoSmall }

/-- 'laws.FnExactTreeFault', WHERE WHAT IT READS IS OF BULK AT MOST 1048576: true; the input reads as it did. -/
def fnExactTreeFaultUptoRow : OpenClaim := { program := "ytdhdgkonghefeaa", sum := "bf2d88d744d771485cd8d3cf6c08c276f967b88af72c689c11cfec0bdd6b3588", func := "loop.example/g00216/laws.FnExactTreeFault", spec := "fnExactTreeFault", unfollowed := true, recurses := true, apart := false, narrowed := true }
def FnExactTreeFaultUptoSaid : Prop := fnExactTreeFaultUptoRow.holds Try.pinned (OpenSpec.upto fnExactTreeFaultSpec)

/-- 'laws.FnExactHasKey', WHERE WHAT IT READS IS OF BULK AT MOST 1048576: true; the input reads as it did. -/
def fnExactHasKeyUptoRow : OpenClaim := { program := "ytdhdgkonghefeaa", sum := "bf2d88d744d771485cd8d3cf6c08c276f967b88af72c689c11cfec0bdd6b3588", func := "loop.example/g00216/laws.FnExactHasKey", spec := "fnExactHasKey", unfollowed := true, recurses := true, apart := false, narrowed := true }
def FnExactHasKeyUptoSaid : Prop := fnExactHasKeyUptoRow.holds Try.pinned (OpenSpec.upto fnExactHasKeySpec)

/-- 'laws.FnExactDepthOf', WHERE WHAT IT READS IS OF BULK AT MOST 1048576: true; the input reads as it did. -/
def fnExactDepthOfUptoRow : OpenClaim := { program := "ytdhdgkonghefeaa", sum := "bf2d88d744d771485cd8d3cf6c08c276f967b88af72c689c11cfec0bdd6b3588", func := "loop.example/g00216/laws.FnExactDepthOf", spec := "fnExactDepthOf", unfollowed := true, recurses := true, apart := false, narrowed := true }
def FnExactDepthOfUptoSaid : Prop := fnExactDepthOfUptoRow.holds Try.pinned (OpenSpec.upto fnExactDepthOfSpec)

/-- 'laws.FnExactPathTo', WHERE WHAT IT READS IS OF BULK AT MOST 1048576: true; the input reads as it did. -/
def fnExactPathToUptoRow : OpenClaim := { program := "ytdhdgkonghefeaa", sum := "bf2d88d744d771485cd8d3cf6c08c276f967b88af72c689c11cfec0bdd6b3588", func := "loop.example/g00216/laws.FnExactPathTo", spec := "fnExactPathTo", unfollowed := true, recurses := true, apart := false, narrowed := true }
def FnExactPathToUptoSaid : Prop := fnExactPathToUptoRow.holds Try.pinned (OpenSpec.upto fnExactPathToSpec)

/-- 'laws.FnExactKeysIn', WHERE WHAT IT READS IS OF BULK AT MOST 1048576: true; the input reads as it did. -/
def fnExactKeysInUptoRow : OpenClaim := { program := "ytdhdgkonghefeaa", sum := "bf2d88d744d771485cd8d3cf6c08c276f967b88af72c689c11cfec0bdd6b3588", func := "loop.example/g00216/laws.FnExactKeysIn", spec := "fnExactKeysIn", unfollowed := true, recurses := true, apart := false, narrowed := true }
def FnExactKeysInUptoSaid : Prop := fnExactKeysInUptoRow.holds Try.pinned (OpenSpec.upto fnExactKeysInSpec)

/-- 'laws.FnRanges', WHERE WHAT IT READS IS OF BULK AT MOST 1048576: true; the input reads as it did. -/
def fnRangesUptoRow : OpenClaim := { program := "ytdhdgkonghefeaa", sum := "bf2d88d744d771485cd8d3cf6c08c276f967b88af72c689c11cfec0bdd6b3588", func := "loop.example/g00216/laws.FnRanges", spec := "fnRanges", unfollowed := true, recurses := true, apart := false, narrowed := true }
def FnRangesUptoSaid : Prop := fnRangesUptoRow.holds Try.pinned (OpenSpec.upto fnRangesSpec)

end Rows
end Go.Proofs.Ytdhdgkonghefeaa
