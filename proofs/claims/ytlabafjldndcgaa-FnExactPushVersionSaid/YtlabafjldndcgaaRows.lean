/-
  No cell of these rows narrows 'for every input' (looked for: loops, veiled, ifaces, maps, wideKeys, modest, calm, conditions, laid).
  DERIVED. THE GIVEN ROWS OF THIS SEAT. 10 by the template 'for every input the law returns true; each argument reads behind the call as it read before'; 0 by the template 'total and deterministic' (their statements: YtlabafjldndcgaaTotals.lean).
  GIVEN WITH THE SEED: the statements are not yours to turn. If you find one false, say at which input.
  Laid BY PROGRAM, IN A SANDBOX (cutbox-rows.mjs): the forced cells as the released guide's own fill.sh prints them over the translation a4b84575a7edd67a… (all of the seat's roots in one cut). By AI agents, Wed Nov 11 2026. No macro, syntax, notation, axiom, sorry.
-/
import Derived.Test.YtlabafjldndcgaaChecked
import GoSem.Claim
import GoSem.ClaimJoined
import GoSem.ClaimMapViews
import Derived.JoinedTies
import Derived.KernelRfl
namespace Go.Proofs.Ytlabafjldndcgaa
/- THE CELL 'sum', in the pinned program and in every row, IS THE sha256 OF THE DUMP (.gsa) THAT YtlabafjldndcgaaProg.lean LOADS. Nothing in Lean hashes anything: it is a label: what it is worth is what the hold of that sum in a sandbox is worth. -/
noncomputable def Try.pinned : Pinned := { name := "ytlabafjldndcgaa", sum := "a4b84575a7edd67a4ba5cc8e08484a9a59928c846d5a92bbf253b054eadaa327", checked := Try.checked }
namespace Rows
def none {H : Type} : Left H := { results := [], args := [] }

/-- 'laws.FnExactChainFault': WHATEVER THE INPUT: true; the input reads as it did. -/
def fnExactChainFaultSpec : ChangeSpec := { name := "fnExactChainFault", fn := fun _ => fun
  | [d] => { results := [.lit (.bool true)], args := [d] }
  | _ => none }
def fnExactChainFaultRow : OpenClaim := { program := "ytlabafjldndcgaa", sum := "a4b84575a7edd67a4ba5cc8e08484a9a59928c846d5a92bbf253b054eadaa327", func := "loop.example/g00216/laws.FnExactChainFault", spec := "fnExactChainFault", apart := false }
def FnExactChainFaultSaid : Prop := fnExactChainFaultRow.holds Try.pinned (OpenSpec.ofChange fnExactChainFaultSpec)

/-- ITS FALSE NEIGHBOUR: 'it returns false'. Refute it at one input. -/
def fnExactChainFaultWrong : ChangeSpec := { name := "fnExactChainFault", fn := fun _ => fun
  | [d] => { results := [.lit (.bool false)], args := [d] }
  | _ => none }
def FnExactChainFaultWrongFalsely : Prop := fnExactChainFaultRow.holds Try.pinned (OpenSpec.ofChange fnExactChainFaultWrong)

/-- 'laws.FnExactWriterOf': WHATEVER THE INPUT: true; the input reads as it did. -/
def fnExactWriterOfSpec : ChangeSpec := { name := "fnExactWriterOf", fn := fun _ => fun
  | [d] => { results := [.lit (.bool true)], args := [d] }
  | _ => none }
def fnExactWriterOfRow : OpenClaim := { program := "ytlabafjldndcgaa", sum := "a4b84575a7edd67a4ba5cc8e08484a9a59928c846d5a92bbf253b054eadaa327", func := "loop.example/g00216/laws.FnExactWriterOf", spec := "fnExactWriterOf", apart := false }
def FnExactWriterOfSaid : Prop := fnExactWriterOfRow.holds Try.pinned (OpenSpec.ofChange fnExactWriterOfSpec)

/-- ITS FALSE NEIGHBOUR: 'it returns false'. Refute it at one input. -/
def fnExactWriterOfWrong : ChangeSpec := { name := "fnExactWriterOf", fn := fun _ => fun
  | [d] => { results := [.lit (.bool false)], args := [d] }
  | _ => none }
def FnExactWriterOfWrongFalsely : Prop := fnExactWriterOfRow.holds Try.pinned (OpenSpec.ofChange fnExactWriterOfWrong)

/-- 'laws.FnExactMayWrite': WHATEVER THE INPUT: true; the input reads as it did. -/
def fnExactMayWriteSpec : ChangeSpec := { name := "fnExactMayWrite", fn := fun _ => fun
  | [d1, d2] => { results := [.lit (.bool true)], args := [d1, d2] }
  | _ => none }
def fnExactMayWriteRow : OpenClaim := { program := "ytlabafjldndcgaa", sum := "a4b84575a7edd67a4ba5cc8e08484a9a59928c846d5a92bbf253b054eadaa327", func := "loop.example/g00216/laws.FnExactMayWrite", spec := "fnExactMayWrite", apart := false }
def FnExactMayWriteSaid : Prop := fnExactMayWriteRow.holds Try.pinned (OpenSpec.ofChange fnExactMayWriteSpec)

/-- ITS FALSE NEIGHBOUR: 'it returns false'. Refute it at one input. -/
def fnExactMayWriteWrong : ChangeSpec := { name := "fnExactMayWrite", fn := fun _ => fun
  | [d1, d2] => { results := [.lit (.bool false)], args := [d1, d2] }
  | _ => none }
def FnExactMayWriteWrongFalsely : Prop := fnExactMayWriteRow.holds Try.pinned (OpenSpec.ofChange fnExactMayWriteWrong)

/-- 'laws.FnExactSeenIn': WHATEVER THE INPUT: true; the input reads as it did. -/
def fnExactSeenInSpec : ChangeSpec := { name := "fnExactSeenIn", fn := fun _ => fun
  | [d1, d2] => { results := [.lit (.bool true)], args := [d1, d2] }
  | _ => none }
def fnExactSeenInRow : OpenClaim := { program := "ytlabafjldndcgaa", sum := "a4b84575a7edd67a4ba5cc8e08484a9a59928c846d5a92bbf253b054eadaa327", func := "loop.example/g00216/laws.FnExactSeenIn", spec := "fnExactSeenIn", unfollowed := true, recurses := true, apart := false }
def FnExactSeenInSaid : Prop := fnExactSeenInRow.holds Try.pinned (OpenSpec.ofChange fnExactSeenInSpec)

/-- ITS FALSE NEIGHBOUR: 'it returns false'. Refute it at one input. -/
def fnExactSeenInWrong : ChangeSpec := { name := "fnExactSeenIn", fn := fun _ => fun
  | [d1, d2] => { results := [.lit (.bool false)], args := [d1, d2] }
  | _ => none }
def FnExactSeenInWrongFalsely : Prop := fnExactSeenInRow.holds Try.pinned (OpenSpec.ofChange fnExactSeenInWrong)

/-- 'laws.FnExactPurgeChain': WHATEVER THE INPUT: true; the input reads as it did. -/
def fnExactPurgeChainSpec : ChangeSpec := { name := "fnExactPurgeChain", fn := fun _ => fun
  | [d1, d2] => { results := [.lit (.bool true)], args := [d1, d2] }
  | _ => none }
def fnExactPurgeChainRow : OpenClaim := { program := "ytlabafjldndcgaa", sum := "a4b84575a7edd67a4ba5cc8e08484a9a59928c846d5a92bbf253b054eadaa327", func := "loop.example/g00216/laws.FnExactPurgeChain", spec := "fnExactPurgeChain", apart := false }
def FnExactPurgeChainSaid : Prop := fnExactPurgeChainRow.holds Try.pinned (OpenSpec.ofChange fnExactPurgeChainSpec)

/-- ITS FALSE NEIGHBOUR: 'it returns false'. Refute it at one input. -/
def fnExactPurgeChainWrong : ChangeSpec := { name := "fnExactPurgeChain", fn := fun _ => fun
  | [d1, d2] => { results := [.lit (.bool false)], args := [d1, d2] }
  | _ => none }
def FnExactPurgeChainWrongFalsely : Prop := fnExactPurgeChainRow.holds Try.pinned (OpenSpec.ofChange fnExactPurgeChainWrong)

/-- 'laws.FnExactRollChain': WHATEVER THE INPUT: true; the input reads as it did. -/
def fnExactRollChainSpec : ChangeSpec := { name := "fnExactRollChain", fn := fun _ => fun
  | [d1, d2] => { results := [.lit (.bool true)], args := [d1, d2] }
  | _ => none }
def fnExactRollChainRow : OpenClaim := { program := "ytlabafjldndcgaa", sum := "a4b84575a7edd67a4ba5cc8e08484a9a59928c846d5a92bbf253b054eadaa327", func := "loop.example/g00216/laws.FnExactRollChain", spec := "fnExactRollChain", apart := false }
def FnExactRollChainSaid : Prop := fnExactRollChainRow.holds Try.pinned (OpenSpec.ofChange fnExactRollChainSpec)

/-- ITS FALSE NEIGHBOUR: 'it returns false'. Refute it at one input. -/
def fnExactRollChainWrong : ChangeSpec := { name := "fnExactRollChain", fn := fun _ => fun
  | [d1, d2] => { results := [.lit (.bool false)], args := [d1, d2] }
  | _ => none }
def FnExactRollChainWrongFalsely : Prop := fnExactRollChainRow.holds Try.pinned (OpenSpec.ofChange fnExactRollChainWrong)

/-- 'laws.FnExactCommitChain': WHATEVER THE INPUT: true; the input reads as it did. -/
def fnExactCommitChainSpec : ChangeSpec := { name := "fnExactCommitChain", fn := fun _ => fun
  | [d1, d2, d3] => { results := [.lit (.bool true)], args := [d1, d2, d3] }
  | _ => none }
def fnExactCommitChainRow : OpenClaim := { program := "ytlabafjldndcgaa", sum := "a4b84575a7edd67a4ba5cc8e08484a9a59928c846d5a92bbf253b054eadaa327", func := "loop.example/g00216/laws.FnExactCommitChain", spec := "fnExactCommitChain", apart := false }
def FnExactCommitChainSaid : Prop := fnExactCommitChainRow.holds Try.pinned (OpenSpec.ofChange fnExactCommitChainSpec)

/-- ITS FALSE NEIGHBOUR: 'it returns false'. Refute it at one input. -/
def fnExactCommitChainWrong : ChangeSpec := { name := "fnExactCommitChain", fn := fun _ => fun
  | [d1, d2, d3] => { results := [.lit (.bool false)], args := [d1, d2, d3] }
  | _ => none }
def FnExactCommitChainWrongFalsely : Prop := fnExactCommitChainRow.holds Try.pinned (OpenSpec.ofChange fnExactCommitChainWrong)

/-- 'laws.FnPurges': WHATEVER THE INPUT: true; the input reads as it did. -/
def fnPurgesSpec : ChangeSpec := { name := "fnPurges", fn := fun _ => fun
  | [d] => { results := [.lit (.bool true)], args := [d] }
  | _ => none }
def fnPurgesRow : OpenClaim := { program := "ytlabafjldndcgaa", sum := "a4b84575a7edd67a4ba5cc8e08484a9a59928c846d5a92bbf253b054eadaa327", func := "loop.example/g00216/laws.FnPurges", spec := "fnPurges", unfollowed := true, recurses := true, apart := false }
def FnPurgesSaid : Prop := fnPurgesRow.holds Try.pinned (OpenSpec.ofChange fnPurgesSpec)

/-- ITS FALSE NEIGHBOUR: 'it returns false'. Refute it at one input. -/
def fnPurgesWrong : ChangeSpec := { name := "fnPurges", fn := fun _ => fun
  | [d] => { results := [.lit (.bool false)], args := [d] }
  | _ => none }
def FnPurgesWrongFalsely : Prop := fnPurgesRow.holds Try.pinned (OpenSpec.ofChange fnPurgesWrong)

/-- 'laws.FnExactPushVersion': WHATEVER THE INPUT: true; the input reads as it did. -/
def fnExactPushVersionSpec : ChangeSpec := { name := "fnExactPushVersion", fn := fun _ => fun
  | [d1, d2, d3, d4] => { results := [.lit (.bool true)], args := [d1, d2, d3, d4] }
  | _ => none }
def fnExactPushVersionRow : OpenClaim := { program := "ytlabafjldndcgaa", sum := "a4b84575a7edd67a4ba5cc8e08484a9a59928c846d5a92bbf253b054eadaa327", func := "loop.example/g00216/laws.FnExactPushVersion", spec := "fnExactPushVersion", apart := false }
def FnExactPushVersionSaid : Prop := fnExactPushVersionRow.holds Try.pinned (OpenSpec.ofChange fnExactPushVersionSpec)

/-- ITS FALSE NEIGHBOUR: 'it returns false'. Refute it at one input. -/
def fnExactPushVersionWrong : ChangeSpec := { name := "fnExactPushVersion", fn := fun _ => fun
  | [d1, d2, d3, d4] => { results := [.lit (.bool false)], args := [d1, d2, d3, d4] }
  | _ => none }
def FnExactPushVersionWrongFalsely : Prop := fnExactPushVersionRow.holds Try.pinned (OpenSpec.ofChange fnExactPushVersionWrong)

/-- 'laws.FnChains': WHATEVER THE INPUT: true; the input reads as it did. -/
def fnChainsSpec : ChangeSpec := { name := "fnChains", fn := fun _ => fun
  | [d] => { results := [.lit (.bool true)], args := [d] }
  | _ => none }
def fnChainsRow : OpenClaim := { program := "ytlabafjldndcgaa", sum := "a4b84575a7edd67a4ba5cc8e08484a9a59928c846d5a92bbf253b054eadaa327", func := "loop.example/g00216/laws.FnChains", spec := "fnChains", unfollowed := true, recurses := true, apart := false }
def FnChainsSaid : Prop := fnChainsRow.holds Try.pinned (OpenSpec.ofChange fnChainsSpec)

/-- ITS FALSE NEIGHBOUR: 'it returns false'. Refute it at one input. -/
def fnChainsWrong : ChangeSpec := { name := "fnChains", fn := fun _ => fun
  | [d] => { results := [.lit (.bool false)], args := [d] }
  | _ => none }
def FnChainsWrongFalsely : Prop := fnChainsRow.holds Try.pinned (OpenSpec.ofChange fnChainsWrong)

/- THE SECOND FORM. 'bulk': how many values and letters a reading holds, each counted each time it is reached (what is shared counts as often as it is met; a slice's spare places count too). A statement '..UptoSaid' is the law's where the arguments, and the package variables that the reading takes, are together of bulk at most 1048576: NARROWER than '..Said'. Prove '..Said' where nothing that the law and all that it calls make is longer than what came in: it says more and counts as full. Else prove '..UptoSaid'. A law counts once. -/
mutual
def uptoBulk {H : Type} : DataW H → Nat
  | .lit (.string bytes) => bytes.length + 1
  | .lit _ => 1
  | .nil => 1
  | .ptr d => uptoBulk d + 1
  | .slice elems spare => uptoBulkAll elems + uptoBulkAll spare + 1
  | .agg parts => uptoBulkAll parts + 1
  | .iface _ d => uptoBulk d + 1
  | .map entries => uptoBulkEntries entries + 1
  | .held _ => 1
def uptoBulkAll {H : Type} : List (DataW H) → Nat
  | [] => 0
  | d :: r => uptoBulk d + uptoBulkAll r
def uptoBulkEntries {H : Type} : List (Lit × DataW H) → Nat
  | [] => 0
  | x :: r => uptoBulkEntry x + uptoBulkEntries r
def uptoBulkEntry {H : Type} : Lit × DataW H → Nat
  | (.string bytes, d) => bytes.length + uptoBulk d + 1
  | (_, d) => uptoBulk d + 1
 end
def uptoSmall : (H : Type) → List (DataW H) → Bool := fun _ ds => decide (uptoBulkAll ds ≤ 1048576)
def OpenSpec.upto (s : _root_.Go.ChangeSpec) : _root_.Go.OpenSpec := { _root_.Go.OpenSpec.ofChange s with cond := some uptoSmall }

/-- 'laws.FnExactChainFault', WHERE WHAT IT READS IS OF BULK AT MOST 1048576: true; the input reads as it did. -/
def fnExactChainFaultUptoRow : OpenClaim := { program := "ytlabafjldndcgaa", sum := "a4b84575a7edd67a4ba5cc8e08484a9a59928c846d5a92bbf253b054eadaa327", func := "loop.example/g00216/laws.FnExactChainFault", spec := "fnExactChainFault", apart := false, narrowed := true }
def FnExactChainFaultUptoSaid : Prop := fnExactChainFaultUptoRow.holds Try.pinned (OpenSpec.upto fnExactChainFaultSpec)

/-- 'laws.FnExactWriterOf', WHERE WHAT IT READS IS OF BULK AT MOST 1048576: true; the input reads as it did. -/
def fnExactWriterOfUptoRow : OpenClaim := { program := "ytlabafjldndcgaa", sum := "a4b84575a7edd67a4ba5cc8e08484a9a59928c846d5a92bbf253b054eadaa327", func := "loop.example/g00216/laws.FnExactWriterOf", spec := "fnExactWriterOf", apart := false, narrowed := true }
def FnExactWriterOfUptoSaid : Prop := fnExactWriterOfUptoRow.holds Try.pinned (OpenSpec.upto fnExactWriterOfSpec)

/-- 'laws.FnExactMayWrite', WHERE WHAT IT READS IS OF BULK AT MOST 1048576: true; the input reads as it did. -/
def fnExactMayWriteUptoRow : OpenClaim := { program := "ytlabafjldndcgaa", sum := "a4b84575a7edd67a4ba5cc8e08484a9a59928c846d5a92bbf253b054eadaa327", func := "loop.example/g00216/laws.FnExactMayWrite", spec := "fnExactMayWrite", apart := false, narrowed := true }
def FnExactMayWriteUptoSaid : Prop := fnExactMayWriteUptoRow.holds Try.pinned (OpenSpec.upto fnExactMayWriteSpec)

/-- 'laws.FnExactSeenIn', WHERE WHAT IT READS IS OF BULK AT MOST 1048576: true; the input reads as it did. -/
def fnExactSeenInUptoRow : OpenClaim := { program := "ytlabafjldndcgaa", sum := "a4b84575a7edd67a4ba5cc8e08484a9a59928c846d5a92bbf253b054eadaa327", func := "loop.example/g00216/laws.FnExactSeenIn", spec := "fnExactSeenIn", unfollowed := true, recurses := true, apart := false, narrowed := true }
def FnExactSeenInUptoSaid : Prop := fnExactSeenInUptoRow.holds Try.pinned (OpenSpec.upto fnExactSeenInSpec)

/-- 'laws.FnExactPurgeChain', WHERE WHAT IT READS IS OF BULK AT MOST 1048576: true; the input reads as it did. -/
def fnExactPurgeChainUptoRow : OpenClaim := { program := "ytlabafjldndcgaa", sum := "a4b84575a7edd67a4ba5cc8e08484a9a59928c846d5a92bbf253b054eadaa327", func := "loop.example/g00216/laws.FnExactPurgeChain", spec := "fnExactPurgeChain", apart := false, narrowed := true }
def FnExactPurgeChainUptoSaid : Prop := fnExactPurgeChainUptoRow.holds Try.pinned (OpenSpec.upto fnExactPurgeChainSpec)

/-- 'laws.FnExactRollChain', WHERE WHAT IT READS IS OF BULK AT MOST 1048576: true; the input reads as it did. -/
def fnExactRollChainUptoRow : OpenClaim := { program := "ytlabafjldndcgaa", sum := "a4b84575a7edd67a4ba5cc8e08484a9a59928c846d5a92bbf253b054eadaa327", func := "loop.example/g00216/laws.FnExactRollChain", spec := "fnExactRollChain", apart := false, narrowed := true }
def FnExactRollChainUptoSaid : Prop := fnExactRollChainUptoRow.holds Try.pinned (OpenSpec.upto fnExactRollChainSpec)

/-- 'laws.FnExactCommitChain', WHERE WHAT IT READS IS OF BULK AT MOST 1048576: true; the input reads as it did. -/
def fnExactCommitChainUptoRow : OpenClaim := { program := "ytlabafjldndcgaa", sum := "a4b84575a7edd67a4ba5cc8e08484a9a59928c846d5a92bbf253b054eadaa327", func := "loop.example/g00216/laws.FnExactCommitChain", spec := "fnExactCommitChain", apart := false, narrowed := true }
def FnExactCommitChainUptoSaid : Prop := fnExactCommitChainUptoRow.holds Try.pinned (OpenSpec.upto fnExactCommitChainSpec)

/-- 'laws.FnPurges', WHERE WHAT IT READS IS OF BULK AT MOST 1048576: true; the input reads as it did. -/
def fnPurgesUptoRow : OpenClaim := { program := "ytlabafjldndcgaa", sum := "a4b84575a7edd67a4ba5cc8e08484a9a59928c846d5a92bbf253b054eadaa327", func := "loop.example/g00216/laws.FnPurges", spec := "fnPurges", unfollowed := true, recurses := true, apart := false, narrowed := true }
def FnPurgesUptoSaid : Prop := fnPurgesUptoRow.holds Try.pinned (OpenSpec.upto fnPurgesSpec)

/-- 'laws.FnExactPushVersion', WHERE WHAT IT READS IS OF BULK AT MOST 1048576: true; the input reads as it did. -/
def fnExactPushVersionUptoRow : OpenClaim := { program := "ytlabafjldndcgaa", sum := "a4b84575a7edd67a4ba5cc8e08484a9a59928c846d5a92bbf253b054eadaa327", func := "loop.example/g00216/laws.FnExactPushVersion", spec := "fnExactPushVersion", apart := false, narrowed := true }
def FnExactPushVersionUptoSaid : Prop := fnExactPushVersionUptoRow.holds Try.pinned (OpenSpec.upto fnExactPushVersionSpec)

/-- 'laws.FnChains', WHERE WHAT IT READS IS OF BULK AT MOST 1048576: true; the input reads as it did. -/
def fnChainsUptoRow : OpenClaim := { program := "ytlabafjldndcgaa", sum := "a4b84575a7edd67a4ba5cc8e08484a9a59928c846d5a92bbf253b054eadaa327", func := "loop.example/g00216/laws.FnChains", spec := "fnChains", unfollowed := true, recurses := true, apart := false, narrowed := true }
def FnChainsUptoSaid : Prop := fnChainsUptoRow.holds Try.pinned (OpenSpec.upto fnChainsSpec)

end Rows
end Go.Proofs.Ytlabafjldndcgaa
