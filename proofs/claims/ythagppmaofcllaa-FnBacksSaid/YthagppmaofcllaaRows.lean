/-
  No cell of these rows narrows 'for every input' (looked for: loops, veiled, ifaces, maps, wideKeys, modest, calm, conditions, laid).
  DERIVED. THE GIVEN ROWS OF THIS SEAT. 8 by the template 'for every input the law returns true; each argument reads behind the call as it read before'; 0 by the template 'total and deterministic' (their statements: YthagppmaofcllaaTotals.lean).
  GIVEN WITH THE SEED: the statements are not yours to turn. If you find one false, say at which input.
  Laid BY PROGRAM, IN A SANDBOX (cutbox-rows.mjs): the forced cells as the released guide's own fill.sh prints them over the translation 99b22b4e9f86f736… (all of the seat's roots in one cut). By AI agents, Wed Nov 11 2026. No macro, syntax, notation, axiom, sorry.
-/
import Derived.Test.YthagppmaofcllaaChecked
import GoSem.Claim
import GoSem.ClaimJoined
import GoSem.ClaimMapViews
import Derived.JoinedTies
import Derived.KernelRfl
namespace Go.Proofs.Ythagppmaofcllaa
/- THE CELL 'sum', in the pinned program and in every row, IS THE sha256 OF THE DUMP (.gsa) THAT YthagppmaofcllaaProg.lean LOADS. Nothing in Lean hashes anything: it is a label: what it is worth is what the hold of that sum in a sandbox is worth. -/
noncomputable def Try.pinned : Pinned := { name := "ythagppmaofcllaa", sum := "99b22b4e9f86f736214a514930c28818b9d7158a05e7f347fa9bd3b27d6a1cd0", checked := Try.checked }
namespace Rows
def none {H : Type} : Left H := { results := [], args := [] }

/-- 'laws.FnExactLogFault': WHATEVER THE INPUT: true; the input reads as it did. -/
def fnExactLogFaultSpec : ChangeSpec := { name := "fnExactLogFault", fn := fun _ => fun
  | [d] => { results := [.lit (.bool true)], args := [d] }
  | _ => none }
def fnExactLogFaultRow : OpenClaim := { program := "ythagppmaofcllaa", sum := "99b22b4e9f86f736214a514930c28818b9d7158a05e7f347fa9bd3b27d6a1cd0", func := "loop.example/g00216/laws.FnExactLogFault", spec := "fnExactLogFault", apart := false }
def FnExactLogFaultSaid : Prop := fnExactLogFaultRow.holds Try.pinned (OpenSpec.ofChange fnExactLogFaultSpec)

/-- ITS FALSE NEIGHBOUR: 'it returns false'. Refute it at one input. -/
def fnExactLogFaultWrong : ChangeSpec := { name := "fnExactLogFault", fn := fun _ => fun
  | [d] => { results := [.lit (.bool false)], args := [d] }
  | _ => none }
def FnExactLogFaultWrongFalsely : Prop := fnExactLogFaultRow.holds Try.pinned (OpenSpec.ofChange fnExactLogFaultWrong)

/-- 'laws.FnExactChainBack': WHATEVER THE INPUT: true; the input reads as it did. -/
def fnExactChainBackSpec : ChangeSpec := { name := "fnExactChainBack", fn := fun _ => fun
  | [d1, d2] => { results := [.lit (.bool true)], args := [d1, d2] }
  | _ => none }
def fnExactChainBackRow : OpenClaim := { program := "ythagppmaofcllaa", sum := "99b22b4e9f86f736214a514930c28818b9d7158a05e7f347fa9bd3b27d6a1cd0", func := "loop.example/g00216/laws.FnExactChainBack", spec := "fnExactChainBack", unfollowed := true, recurses := true, apart := false }
def FnExactChainBackSaid : Prop := fnExactChainBackRow.holds Try.pinned (OpenSpec.ofChange fnExactChainBackSpec)

/-- ITS FALSE NEIGHBOUR: 'it returns false'. Refute it at one input. -/
def fnExactChainBackWrong : ChangeSpec := { name := "fnExactChainBack", fn := fun _ => fun
  | [d1, d2] => { results := [.lit (.bool false)], args := [d1, d2] }
  | _ => none }
def FnExactChainBackWrongFalsely : Prop := fnExactChainBackRow.holds Try.pinned (OpenSpec.ofChange fnExactChainBackWrong)

/-- 'laws.FnBacks': WHATEVER THE INPUT: true; the input reads as it did. -/
def fnBacksSpec : ChangeSpec := { name := "fnBacks", fn := fun _ => fun
  | [d] => { results := [.lit (.bool true)], args := [d] }
  | _ => none }
def fnBacksRow : OpenClaim := { program := "ythagppmaofcllaa", sum := "99b22b4e9f86f736214a514930c28818b9d7158a05e7f347fa9bd3b27d6a1cd0", func := "loop.example/g00216/laws.FnBacks", spec := "fnBacks", unfollowed := true, recurses := true, apart := false }
def FnBacksSaid : Prop := fnBacksRow.holds Try.pinned (OpenSpec.ofChange fnBacksSpec)

/-- ITS FALSE NEIGHBOUR: 'it returns false'. Refute it at one input. -/
def fnBacksWrong : ChangeSpec := { name := "fnBacks", fn := fun _ => fun
  | [d] => { results := [.lit (.bool false)], args := [d] }
  | _ => none }
def FnBacksWrongFalsely : Prop := fnBacksRow.holds Try.pinned (OpenSpec.ofChange fnBacksWrong)

/-- 'laws.FnExactUnpackRecs': WHATEVER THE INPUT: true; the input reads as it did. -/
def fnExactUnpackRecsSpec : ChangeSpec := { name := "fnExactUnpackRecs", fn := fun _ => fun
  | [d] => { results := [.lit (.bool true)], args := [d] }
  | _ => none }
def fnExactUnpackRecsRow : OpenClaim := { program := "ythagppmaofcllaa", sum := "99b22b4e9f86f736214a514930c28818b9d7158a05e7f347fa9bd3b27d6a1cd0", func := "loop.example/g00216/laws.FnExactUnpackRecs", spec := "fnExactUnpackRecs", apart := false }
def FnExactUnpackRecsSaid : Prop := fnExactUnpackRecsRow.holds Try.pinned (OpenSpec.ofChange fnExactUnpackRecsSpec)

/-- ITS FALSE NEIGHBOUR: 'it returns false'. Refute it at one input. -/
def fnExactUnpackRecsWrong : ChangeSpec := { name := "fnExactUnpackRecs", fn := fun _ => fun
  | [d] => { results := [.lit (.bool false)], args := [d] }
  | _ => none }
def FnExactUnpackRecsWrongFalsely : Prop := fnExactUnpackRecsRow.holds Try.pinned (OpenSpec.ofChange fnExactUnpackRecsWrong)

/-- 'laws.FnExactFlushLog': WHATEVER THE INPUT: true; the input reads as it did. -/
def fnExactFlushLogSpec : ChangeSpec := { name := "fnExactFlushLog", fn := fun _ => fun
  | [d] => { results := [.lit (.bool true)], args := [d] }
  | _ => none }
def fnExactFlushLogRow : OpenClaim := { program := "ythagppmaofcllaa", sum := "99b22b4e9f86f736214a514930c28818b9d7158a05e7f347fa9bd3b27d6a1cd0", func := "loop.example/g00216/laws.FnExactFlushLog", spec := "fnExactFlushLog", apart := false }
def FnExactFlushLogSaid : Prop := fnExactFlushLogRow.holds Try.pinned (OpenSpec.ofChange fnExactFlushLogSpec)

/-- ITS FALSE NEIGHBOUR: 'it returns false'. Refute it at one input. -/
def fnExactFlushLogWrong : ChangeSpec := { name := "fnExactFlushLog", fn := fun _ => fun
  | [d] => { results := [.lit (.bool false)], args := [d] }
  | _ => none }
def FnExactFlushLogWrongFalsely : Prop := fnExactFlushLogRow.holds Try.pinned (OpenSpec.ofChange fnExactFlushLogWrong)

/-- 'laws.FnExactCrashLog': WHATEVER THE INPUT: true; the input reads as it did. -/
def fnExactCrashLogSpec : ChangeSpec := { name := "fnExactCrashLog", fn := fun _ => fun
  | [d1, d2] => { results := [.lit (.bool true)], args := [d1, d2] }
  | _ => none }
def fnExactCrashLogRow : OpenClaim := { program := "ythagppmaofcllaa", sum := "99b22b4e9f86f736214a514930c28818b9d7158a05e7f347fa9bd3b27d6a1cd0", func := "loop.example/g00216/laws.FnExactCrashLog", spec := "fnExactCrashLog", apart := false }
def FnExactCrashLogSaid : Prop := fnExactCrashLogRow.holds Try.pinned (OpenSpec.ofChange fnExactCrashLogSpec)

/-- ITS FALSE NEIGHBOUR: 'it returns false'. Refute it at one input. -/
def fnExactCrashLogWrong : ChangeSpec := { name := "fnExactCrashLog", fn := fun _ => fun
  | [d1, d2] => { results := [.lit (.bool false)], args := [d1, d2] }
  | _ => none }
def FnExactCrashLogWrongFalsely : Prop := fnExactCrashLogRow.holds Try.pinned (OpenSpec.ofChange fnExactCrashLogWrong)

/-- 'laws.FnTails': WHATEVER THE INPUT: true; the input reads as it did. -/
def fnTailsSpec : ChangeSpec := { name := "fnTails", fn := fun _ => fun
  | [d] => { results := [.lit (.bool true)], args := [d] }
  | _ => none }
def fnTailsRow : OpenClaim := { program := "ythagppmaofcllaa", sum := "99b22b4e9f86f736214a514930c28818b9d7158a05e7f347fa9bd3b27d6a1cd0", func := "loop.example/g00216/laws.FnTails", spec := "fnTails", apart := false }
def FnTailsSaid : Prop := fnTailsRow.holds Try.pinned (OpenSpec.ofChange fnTailsSpec)

/-- ITS FALSE NEIGHBOUR: 'it returns false'. Refute it at one input. -/
def fnTailsWrong : ChangeSpec := { name := "fnTails", fn := fun _ => fun
  | [d] => { results := [.lit (.bool false)], args := [d] }
  | _ => none }
def FnTailsWrongFalsely : Prop := fnTailsRow.holds Try.pinned (OpenSpec.ofChange fnTailsWrong)

/-- 'laws.FnExactRecsOf': WHATEVER THE INPUT: true; the input reads as it did. -/
def fnExactRecsOfSpec : ChangeSpec := { name := "fnExactRecsOf", fn := fun _ => fun
  | [d] => { results := [.lit (.bool true)], args := [d] }
  | _ => none }
def fnExactRecsOfRow : OpenClaim := { program := "ythagppmaofcllaa", sum := "99b22b4e9f86f736214a514930c28818b9d7158a05e7f347fa9bd3b27d6a1cd0", func := "loop.example/g00216/laws.FnExactRecsOf", spec := "fnExactRecsOf", apart := false }
def FnExactRecsOfSaid : Prop := fnExactRecsOfRow.holds Try.pinned (OpenSpec.ofChange fnExactRecsOfSpec)

/-- ITS FALSE NEIGHBOUR: 'it returns false'. Refute it at one input. -/
def fnExactRecsOfWrong : ChangeSpec := { name := "fnExactRecsOf", fn := fun _ => fun
  | [d] => { results := [.lit (.bool false)], args := [d] }
  | _ => none }
def FnExactRecsOfWrongFalsely : Prop := fnExactRecsOfRow.holds Try.pinned (OpenSpec.ofChange fnExactRecsOfWrong)

/- THE SECOND FORM. 'bulk': how many values and letters a reading holds, each counted each time it is reached (what is shared counts as often as it is met; a slice's spare places count too). A statement '..UptoSaid' is the law's where the arguments, and the package variables that the reading takes, are together of bulk at most 1048576: NARROWER than '..Said'. Prove '..Said' where nothing that the law and all that it calls make is longer than what came in: it says more and counts as full. Else prove '..UptoSaid'. A law counts once. -/
mutual
def uptoBulk {H : Type} : DataW H → Nat
  | .lit (.string bytes) => bytes.length + 1
  | .lit _ => 1
  | .nil => 1
  | .ptr d => uptoBulk d + 1
  | .slice elems spare => uptoBulkAll elems + uptoBulkAll spare + 1
  | .agg parts => uptoBulkAll parts + 1
  | .iface _ d => uptoBulk d + 1
  | .map entries => uptoBulkEntries entries + 1
  | .held _ => 1
def uptoBulkAll {H : Type} : List (DataW H) → Nat
  | [] => 0
  | d :: r => uptoBulk d + uptoBulkAll r
def uptoBulkEntries {H : Type} : List (Lit × DataW H) → Nat
  | [] => 0
  | x :: r => uptoBulkEntry x + uptoBulkEntries r
def uptoBulkEntry {H : Type} : Lit × DataW H → Nat
  | (.string bytes, d) => bytes.length + uptoBulk d + 1
  | (_, d) => uptoBulk d + 1
 end
def uptoSmall : (H : Type) → List (DataW H) → Bool := fun _ ds => decide (uptoBulkAll ds ≤ 1048576)
def OpenSpec.upto (s : _root_.Go.ChangeSpec) : _root_.Go.OpenSpec := { _root_.Go.OpenSpec.ofChange s with cond := some uptoSmall }

/-- 'laws.FnExactLogFault', WHERE WHAT IT READS IS OF BULK AT MOST 1048576: true; the input reads as it did. -/
def fnExactLogFaultUptoRow : OpenClaim := { program := "ythagppmaofcllaa", sum := "99b22b4e9f86f736214a514930c28818b9d7158a05e7f347fa9bd3b27d6a1cd0", func := "loop.example/g00216/laws.FnExactLogFault", spec := "fnExactLogFault", apart := false, narrowed := true }
def FnExactLogFaultUptoSaid : Prop := fnExactLogFaultUptoRow.holds Try.pinned (OpenSpec.upto fnExactLogFaultSpec)

/-- 'laws.FnExactChainBack', WHERE WHAT IT READS IS OF BULK AT MOST 1048576: true; the input reads as it did. -/
def fnExactChainBackUptoRow : OpenClaim := { program := "ythagppmaofcllaa", sum := "99b22b4e9f86f736214a514930c28818b9d7158a05e7f347fa9bd3b27d6a1cd0", func := "loop.example/g00216/laws.FnExactChainBack", spec := "fnExactChainBack", unfollowed := true, recurses := true, apart := false, narrowed := true }
def FnExactChainBackUptoSaid : Prop := fnExactChainBackUptoRow.holds Try.pinned (OpenSpec.upto fnExactChainBackSpec)

/-- 'laws.FnBacks', WHERE WHAT IT READS IS OF BULK AT MOST 1048576: true; the input reads as it did. -/
def fnBacksUptoRow : OpenClaim := { program := "ythagppmaofcllaa", sum := "99b22b4e9f86f736214a514930c28818b9d7158a05e7f347fa9bd3b27d6a1cd0", func := "loop.example/g00216/laws.FnBacks", spec := "fnBacks", unfollowed := true, recurses := true, apart := false, narrowed := true }
def FnBacksUptoSaid : Prop := fnBacksUptoRow.holds Try.pinned (OpenSpec.upto fnBacksSpec)

/-- 'laws.FnExactUnpackRecs', WHERE WHAT IT READS IS OF BULK AT MOST 1048576: true; the input reads as it did. -/
def fnExactUnpackRecsUptoRow : OpenClaim := { program := "ythagppmaofcllaa", sum := "99b22b4e9f86f736214a514930c28818b9d7158a05e7f347fa9bd3b27d6a1cd0", func := "loop.example/g00216/laws.FnExactUnpackRecs", spec := "fnExactUnpackRecs", apart := false, narrowed := true }
def FnExactUnpackRecsUptoSaid : Prop := fnExactUnpackRecsUptoRow.holds Try.pinned (OpenSpec.upto fnExactUnpackRecsSpec)

/-- 'laws.FnExactFlushLog', WHERE WHAT IT READS IS OF BULK AT MOST 1048576: true; the input reads as it did. -/
def fnExactFlushLogUptoRow : OpenClaim := { program := "ythagppmaofcllaa", sum := "99b22b4e9f86f736214a514930c28818b9d7158a05e7f347fa9bd3b27d6a1cd0", func := "loop.example/g00216/laws.FnExactFlushLog", spec := "fnExactFlushLog", apart := false, narrowed := true }
def FnExactFlushLogUptoSaid : Prop := fnExactFlushLogUptoRow.holds Try.pinned (OpenSpec.upto fnExactFlushLogSpec)

/-- 'laws.FnExactCrashLog', WHERE WHAT IT READS IS OF BULK AT MOST 1048576: true; the input reads as it did. -/
def fnExactCrashLogUptoRow : OpenClaim := { program := "ythagppmaofcllaa", sum := "99b22b4e9f86f736214a514930c28818b9d7158a05e7f347fa9bd3b27d6a1cd0", func := "loop.example/g00216/laws.FnExactCrashLog", spec := "fnExactCrashLog", apart := false, narrowed := true }
def FnExactCrashLogUptoSaid : Prop := fnExactCrashLogUptoRow.holds Try.pinned (OpenSpec.upto fnExactCrashLogSpec)

/-- 'laws.FnTails', WHERE WHAT IT READS IS OF BULK AT MOST 1048576: true; the input reads as it did. -/
def fnTailsUptoRow : OpenClaim := { program := "ythagppmaofcllaa", sum := "99b22b4e9f86f736214a514930c28818b9d7158a05e7f347fa9bd3b27d6a1cd0", func := "loop.example/g00216/laws.FnTails", spec := "fnTails", apart := false, narrowed := true }
def FnTailsUptoSaid : Prop := fnTailsUptoRow.holds Try.pinned (OpenSpec.upto fnTailsSpec)

/-- 'laws.FnExactRecsOf', WHERE WHAT IT READS IS OF BULK AT MOST 1048576: true; the input reads as it did. -/
def fnExactRecsOfUptoRow : OpenClaim := { program := "ythagppmaofcllaa", sum := "99b22b4e9f86f736214a514930c28818b9d7158a05e7f347fa9bd3b27d6a1cd0", func := "loop.example/g00216/laws.FnExactRecsOf", spec := "fnExactRecsOf", apart := false, narrowed := true }
def FnExactRecsOfUptoSaid : Prop := fnExactRecsOfUptoRow.holds Try.pinned (OpenSpec.upto fnExactRecsOfSpec)

end Rows
end Go.Proofs.Ythagppmaofcllaa
