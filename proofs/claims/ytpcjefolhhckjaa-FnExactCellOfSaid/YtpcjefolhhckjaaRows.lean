/-
  No cell of these rows narrows 'for every input' (looked for: loops, veiled, ifaces, maps, wideKeys, modest, calm, conditions, laid).
  DERIVED. THE GIVEN ROWS OF THIS SEAT. 12 by the template 'for every input the law returns true; each argument reads behind the call as it read before'; 0 by the template 'total and deterministic' (their statements: YtpcjefolhhckjaaTotals.lean).
  GIVEN WITH THE SEED: the statements are not yours to turn. If you find one false, say at which input.
  Laid BY PROGRAM, IN A SANDBOX (cutbox-rows.mjs): the forced cells as the released guide's own fill.sh prints them over the translation 1ca896719a4c5879… (all of the seat's roots in one cut). By AI agents, Wed Nov 11 2026. No macro, syntax, notation, axiom, sorry.
-/
import Derived.Test.YtpcjefolhhckjaaChecked
import GoSem.Claim
import GoSem.ClaimJoined
import GoSem.ClaimMapViews
import Derived.JoinedTies
import Derived.KernelRfl
namespace Go.Proofs.Ytpcjefolhhckjaa
/- THE CELL 'sum', in the pinned program and in every row, IS THE sha256 OF THE DUMP (.gsa) THAT YtpcjefolhhckjaaProg.lean LOADS. Nothing in Lean hashes anything: it is a label: what it is worth is what the hold of that sum in a sandbox is worth. -/
noncomputable def Try.pinned : Pinned := { name := "ytpcjefolhhckjaa", sum := "1ca896719a4c5879fda445a7271072768c49b6fda34d253c33aef4c34de3c4a1", checked := Try.checked }
namespace Rows
def none {H : Type} : Left H := { results := [], args := [] }

/-- 'laws.FnExactConstants': WHATEVER THE INPUT: true; the input reads as it did. -/
def fnExactConstantsSpec : ChangeSpec := { name := "fnExactConstants", fn := fun _ => fun
  | [] => { results := [.lit (.bool true)], args := [] }
  | _ => none }
def fnExactConstantsRow : OpenClaim := { program := "ytpcjefolhhckjaa", sum := "1ca896719a4c5879fda445a7271072768c49b6fda34d253c33aef4c34de3c4a1", func := "loop.example/g00216/laws.FnExactConstants", spec := "fnExactConstants", apart := false }
def FnExactConstantsSaid : Prop := fnExactConstantsRow.holds Try.pinned (OpenSpec.ofChange fnExactConstantsSpec)

/-- ITS FALSE NEIGHBOUR: 'it returns false'. Refute it at one input. -/
def fnExactConstantsWrong : ChangeSpec := { name := "fnExactConstants", fn := fun _ => fun
  | [] => { results := [.lit (.bool false)], args := [] }
  | _ => none }
def FnExactConstantsWrongFalsely : Prop := fnExactConstantsRow.holds Try.pinned (OpenSpec.ofChange fnExactConstantsWrong)

/-- 'laws.FnExactSumBytes': WHATEVER THE INPUT: true; the input reads as it did. -/
def fnExactSumBytesSpec : ChangeSpec := { name := "fnExactSumBytes", fn := fun _ => fun
  | [d] => { results := [.lit (.bool true)], args := [d] }
  | _ => none }
def fnExactSumBytesRow : OpenClaim := { program := "ytpcjefolhhckjaa", sum := "1ca896719a4c5879fda445a7271072768c49b6fda34d253c33aef4c34de3c4a1", func := "loop.example/g00216/laws.FnExactSumBytes", spec := "fnExactSumBytes", apart := false }
def FnExactSumBytesSaid : Prop := fnExactSumBytesRow.holds Try.pinned (OpenSpec.ofChange fnExactSumBytesSpec)

/-- ITS FALSE NEIGHBOUR: 'it returns false'. Refute it at one input. -/
def fnExactSumBytesWrong : ChangeSpec := { name := "fnExactSumBytes", fn := fun _ => fun
  | [d] => { results := [.lit (.bool false)], args := [d] }
  | _ => none }
def FnExactSumBytesWrongFalsely : Prop := fnExactSumBytesRow.holds Try.pinned (OpenSpec.ofChange fnExactSumBytesWrong)

/-- 'laws.FnExactNewPage': WHATEVER THE INPUT: true; the input reads as it did. -/
def fnExactNewPageSpec : ChangeSpec := { name := "fnExactNewPage", fn := fun _ => fun
  | [d] => { results := [.lit (.bool true)], args := [d] }
  | _ => none }
def fnExactNewPageRow : OpenClaim := { program := "ytpcjefolhhckjaa", sum := "1ca896719a4c5879fda445a7271072768c49b6fda34d253c33aef4c34de3c4a1", func := "loop.example/g00216/laws.FnExactNewPage", spec := "fnExactNewPage", apart := false }
def FnExactNewPageSaid : Prop := fnExactNewPageRow.holds Try.pinned (OpenSpec.ofChange fnExactNewPageSpec)

/-- ITS FALSE NEIGHBOUR: 'it returns false'. Refute it at one input. -/
def fnExactNewPageWrong : ChangeSpec := { name := "fnExactNewPage", fn := fun _ => fun
  | [d] => { results := [.lit (.bool false)], args := [d] }
  | _ => none }
def FnExactNewPageWrongFalsely : Prop := fnExactNewPageRow.holds Try.pinned (OpenSpec.ofChange fnExactNewPageWrong)

/-- 'laws.FnExactPageFault': WHATEVER THE INPUT: true; the input reads as it did. -/
def fnExactPageFaultSpec : ChangeSpec := { name := "fnExactPageFault", fn := fun _ => fun
  | [d] => { results := [.lit (.bool true)], args := [d] }
  | _ => none }
def fnExactPageFaultRow : OpenClaim := { program := "ytpcjefolhhckjaa", sum := "1ca896719a4c5879fda445a7271072768c49b6fda34d253c33aef4c34de3c4a1", func := "loop.example/g00216/laws.FnExactPageFault", spec := "fnExactPageFault", apart := false }
def FnExactPageFaultSaid : Prop := fnExactPageFaultRow.holds Try.pinned (OpenSpec.ofChange fnExactPageFaultSpec)

/-- ITS FALSE NEIGHBOUR: 'it returns false'. Refute it at one input. -/
def fnExactPageFaultWrong : ChangeSpec := { name := "fnExactPageFault", fn := fun _ => fun
  | [d] => { results := [.lit (.bool false)], args := [d] }
  | _ => none }
def FnExactPageFaultWrongFalsely : Prop := fnExactPageFaultRow.holds Try.pinned (OpenSpec.ofChange fnExactPageFaultWrong)

/-- 'laws.FnExactCellOf': WHATEVER THE INPUT: true; the input reads as it did. -/
def fnExactCellOfSpec : ChangeSpec := { name := "fnExactCellOf", fn := fun _ => fun
  | [d1, d2] => { results := [.lit (.bool true)], args := [d1, d2] }
  | _ => none }
def fnExactCellOfRow : OpenClaim := { program := "ytpcjefolhhckjaa", sum := "1ca896719a4c5879fda445a7271072768c49b6fda34d253c33aef4c34de3c4a1", func := "loop.example/g00216/laws.FnExactCellOf", spec := "fnExactCellOf", unfollowed := true, recurses := true, apart := false }
def FnExactCellOfSaid : Prop := fnExactCellOfRow.holds Try.pinned (OpenSpec.ofChange fnExactCellOfSpec)

/-- ITS FALSE NEIGHBOUR: 'it returns false'. Refute it at one input. -/
def fnExactCellOfWrong : ChangeSpec := { name := "fnExactCellOf", fn := fun _ => fun
  | [d1, d2] => { results := [.lit (.bool false)], args := [d1, d2] }
  | _ => none }
def FnExactCellOfWrongFalsely : Prop := fnExactCellOfRow.holds Try.pinned (OpenSpec.ofChange fnExactCellOfWrong)

/-- 'laws.FnExactDropCell': WHATEVER THE INPUT: true; the input reads as it did. -/
def fnExactDropCellSpec : ChangeSpec := { name := "fnExactDropCell", fn := fun _ => fun
  | [d1, d2, d3] => { results := [.lit (.bool true)], args := [d1, d2, d3] }
  | _ => none }
def fnExactDropCellRow : OpenClaim := { program := "ytpcjefolhhckjaa", sum := "1ca896719a4c5879fda445a7271072768c49b6fda34d253c33aef4c34de3c4a1", func := "loop.example/g00216/laws.FnExactDropCell", spec := "fnExactDropCell", unfollowed := true, recurses := true, apart := false }
def FnExactDropCellSaid : Prop := fnExactDropCellRow.holds Try.pinned (OpenSpec.ofChange fnExactDropCellSpec)

/-- ITS FALSE NEIGHBOUR: 'it returns false'. Refute it at one input. -/
def fnExactDropCellWrong : ChangeSpec := { name := "fnExactDropCell", fn := fun _ => fun
  | [d1, d2, d3] => { results := [.lit (.bool false)], args := [d1, d2, d3] }
  | _ => none }
def FnExactDropCellWrongFalsely : Prop := fnExactDropCellRow.holds Try.pinned (OpenSpec.ofChange fnExactDropCellWrong)

/-- 'laws.FnExactSetCell': WHATEVER THE INPUT: true; the input reads as it did. -/
def fnExactSetCellSpec : ChangeSpec := { name := "fnExactSetCell", fn := fun _ => fun
  | [d1, d2, d3, d4] => { results := [.lit (.bool true)], args := [d1, d2, d3, d4] }
  | _ => none }
def fnExactSetCellRow : OpenClaim := { program := "ytpcjefolhhckjaa", sum := "1ca896719a4c5879fda445a7271072768c49b6fda34d253c33aef4c34de3c4a1", func := "loop.example/g00216/laws.FnExactSetCell", spec := "fnExactSetCell", inPlace := ["slices.overlaps[loop.example/g00216/impl.Cell]"], unfollowed := true, recurses := true, apart := false }
def FnExactSetCellSaid : Prop := fnExactSetCellRow.holds Try.pinned (OpenSpec.ofChange fnExactSetCellSpec)

/-- ITS FALSE NEIGHBOUR: 'it returns false'. Refute it at one input. -/
def fnExactSetCellWrong : ChangeSpec := { name := "fnExactSetCell", fn := fun _ => fun
  | [d1, d2, d3, d4] => { results := [.lit (.bool false)], args := [d1, d2, d3, d4] }
  | _ => none }
def FnExactSetCellWrongFalsely : Prop := fnExactSetCellRow.holds Try.pinned (OpenSpec.ofChange fnExactSetCellWrong)

/-- 'laws.FnCells': WHATEVER THE INPUT: true; the input reads as it did. -/
def fnCellsSpec : ChangeSpec := { name := "fnCells", fn := fun _ => fun
  | [d] => { results := [.lit (.bool true)], args := [d] }
  | _ => none }
def fnCellsRow : OpenClaim := { program := "ytpcjefolhhckjaa", sum := "1ca896719a4c5879fda445a7271072768c49b6fda34d253c33aef4c34de3c4a1", func := "loop.example/g00216/laws.FnCells", spec := "fnCells", inPlace := ["slices.overlaps[loop.example/g00216/impl.Cell]"], unfollowed := true, recurses := true, apart := false }
def FnCellsSaid : Prop := fnCellsRow.holds Try.pinned (OpenSpec.ofChange fnCellsSpec)

/-- ITS FALSE NEIGHBOUR: 'it returns false'. Refute it at one input. -/
def fnCellsWrong : ChangeSpec := { name := "fnCells", fn := fun _ => fun
  | [d] => { results := [.lit (.bool false)], args := [d] }
  | _ => none }
def FnCellsWrongFalsely : Prop := fnCellsRow.holds Try.pinned (OpenSpec.ofChange fnCellsWrong)

/-- 'laws.FnExactPackPage': WHATEVER THE INPUT: true; the input reads as it did. -/
def fnExactPackPageSpec : ChangeSpec := { name := "fnExactPackPage", fn := fun _ => fun
  | [d] => { results := [.lit (.bool true)], args := [d] }
  | _ => none }
def fnExactPackPageRow : OpenClaim := { program := "ytpcjefolhhckjaa", sum := "1ca896719a4c5879fda445a7271072768c49b6fda34d253c33aef4c34de3c4a1", func := "loop.example/g00216/laws.FnExactPackPage", spec := "fnExactPackPage", apart := false }
def FnExactPackPageSaid : Prop := fnExactPackPageRow.holds Try.pinned (OpenSpec.ofChange fnExactPackPageSpec)

/-- ITS FALSE NEIGHBOUR: 'it returns false'. Refute it at one input. -/
def fnExactPackPageWrong : ChangeSpec := { name := "fnExactPackPage", fn := fun _ => fun
  | [d] => { results := [.lit (.bool false)], args := [d] }
  | _ => none }
def FnExactPackPageWrongFalsely : Prop := fnExactPackPageRow.holds Try.pinned (OpenSpec.ofChange fnExactPackPageWrong)

/-- 'laws.FnExactUnpackPage': WHATEVER THE INPUT: true; the input reads as it did. -/
def fnExactUnpackPageSpec : ChangeSpec := { name := "fnExactUnpackPage", fn := fun _ => fun
  | [d] => { results := [.lit (.bool true)], args := [d] }
  | _ => none }
def fnExactUnpackPageRow : OpenClaim := { program := "ytpcjefolhhckjaa", sum := "1ca896719a4c5879fda445a7271072768c49b6fda34d253c33aef4c34de3c4a1", func := "loop.example/g00216/laws.FnExactUnpackPage", spec := "fnExactUnpackPage", apart := false }
def FnExactUnpackPageSaid : Prop := fnExactUnpackPageRow.holds Try.pinned (OpenSpec.ofChange fnExactUnpackPageSpec)

/-- ITS FALSE NEIGHBOUR: 'it returns false'. Refute it at one input. -/
def fnExactUnpackPageWrong : ChangeSpec := { name := "fnExactUnpackPage", fn := fun _ => fun
  | [d] => { results := [.lit (.bool false)], args := [d] }
  | _ => none }
def FnExactUnpackPageWrongFalsely : Prop := fnExactUnpackPageRow.holds Try.pinned (OpenSpec.ofChange fnExactUnpackPageWrong)

/-- 'laws.FnPages': WHATEVER THE INPUT: true; the input reads as it did. -/
def fnPagesSpec : ChangeSpec := { name := "fnPages", fn := fun _ => fun
  | [d] => { results := [.lit (.bool true)], args := [d] }
  | _ => none }
def fnPagesRow : OpenClaim := { program := "ytpcjefolhhckjaa", sum := "1ca896719a4c5879fda445a7271072768c49b6fda34d253c33aef4c34de3c4a1", func := "loop.example/g00216/laws.FnPages", spec := "fnPages", apart := false }
def FnPagesSaid : Prop := fnPagesRow.holds Try.pinned (OpenSpec.ofChange fnPagesSpec)

/-- ITS FALSE NEIGHBOUR: 'it returns false'. Refute it at one input. -/
def fnPagesWrong : ChangeSpec := { name := "fnPages", fn := fun _ => fun
  | [d] => { results := [.lit (.bool false)], args := [d] }
  | _ => none }
def FnPagesWrongFalsely : Prop := fnPagesRow.holds Try.pinned (OpenSpec.ofChange fnPagesWrong)

/-- 'laws.FnExactNewDisk': WHATEVER THE INPUT: true; the input reads as it did. -/
def fnExactNewDiskSpec : ChangeSpec := { name := "fnExactNewDisk", fn := fun _ => fun
  | [d] => { results := [.lit (.bool true)], args := [d] }
  | _ => none }
def fnExactNewDiskRow : OpenClaim := { program := "ytpcjefolhhckjaa", sum := "1ca896719a4c5879fda445a7271072768c49b6fda34d253c33aef4c34de3c4a1", func := "loop.example/g00216/laws.FnExactNewDisk", spec := "fnExactNewDisk", apart := false }
def FnExactNewDiskSaid : Prop := fnExactNewDiskRow.holds Try.pinned (OpenSpec.ofChange fnExactNewDiskSpec)

/-- ITS FALSE NEIGHBOUR: 'it returns false'. Refute it at one input. -/
def fnExactNewDiskWrong : ChangeSpec := { name := "fnExactNewDisk", fn := fun _ => fun
  | [d] => { results := [.lit (.bool false)], args := [d] }
  | _ => none }
def FnExactNewDiskWrongFalsely : Prop := fnExactNewDiskRow.holds Try.pinned (OpenSpec.ofChange fnExactNewDiskWrong)

/- THE SECOND FORM. 'bulk': how many values and letters a reading holds, each counted each time it is reached (what is shared counts as often as it is met; a slice's spare places count too). A statement '..UptoSaid' is the law's where the arguments, and the package variables that the reading takes, are together of bulk at most 1048576: NARROWER than '..Said'. Prove '..Said' where nothing that the law and all that it calls make is longer than what came in: it says more and counts as full. Else prove '..UptoSaid'. A law counts once. -/
mutual
def uptoBulk {H : Type} : DataW H → Nat
  | .lit (.string bytes) => bytes.length + 1
  | .lit _ => 1
  | .nil => 1
  | .ptr d => uptoBulk d + 1
  | .slice elems spare => uptoBulkAll elems + uptoBulkAll spare + 1
  | .agg parts => uptoBulkAll parts + 1
  | .iface _ d => uptoBulk d + 1
  | .map entries => uptoBulkEntries entries + 1
  | .held _ => 1
def uptoBulkAll {H : Type} : List (DataW H) → Nat
  | [] => 0
  | d :: r => uptoBulk d + uptoBulkAll r
def uptoBulkEntries {H : Type} : List (Lit × DataW H) → Nat
  | [] => 0
  | x :: r => uptoBulkEntry x + uptoBulkEntries r
def uptoBulkEntry {H : Type} : Lit × DataW H → Nat
  | (.string bytes, d) => bytes.length + uptoBulk d + 1
  | (_, d) => uptoBulk d + 1
 end
def uptoSmall : (H : Type) → List (DataW H) → Bool := fun _ ds => decide (uptoBulkAll ds ≤ 1048576)
def OpenSpec.upto (s : _root_.Go.ChangeSpec) : _root_.Go.OpenSpec := { _root_.Go.OpenSpec.ofChange s with cond := some uptoSmall }

/-- 'laws.FnExactConstants', WHERE WHAT IT READS IS OF BULK AT MOST 1048576: true; the input reads as it did. -/
def fnExactConstantsUptoRow : OpenClaim := { program := "ytpcjefolhhckjaa", sum := "1ca896719a4c5879fda445a7271072768c49b6fda34d253c33aef4c34de3c4a1", func := "loop.example/g00216/laws.FnExactConstants", spec := "fnExactConstants", apart := false, narrowed := true }
def FnExactConstantsUptoSaid : Prop := fnExactConstantsUptoRow.holds Try.pinned (OpenSpec.upto fnExactConstantsSpec)

/-- 'laws.FnExactSumBytes', WHERE WHAT IT READS IS OF BULK AT MOST 1048576: true; the input reads as it did. -/
def fnExactSumBytesUptoRow : OpenClaim := { program := "ytpcjefolhhckjaa", sum := "1ca896719a4c5879fda445a7271072768c49b6fda34d253c33aef4c34de3c4a1", func := "loop.example/g00216/laws.FnExactSumBytes", spec := "fnExactSumBytes", apart := false, narrowed := true }
def FnExactSumBytesUptoSaid : Prop := fnExactSumBytesUptoRow.holds Try.pinned (OpenSpec.upto fnExactSumBytesSpec)

/-- 'laws.FnExactNewPage', WHERE WHAT IT READS IS OF BULK AT MOST 1048576: true; the input reads as it did. -/
def fnExactNewPageUptoRow : OpenClaim := { program := "ytpcjefolhhckjaa", sum := "1ca896719a4c5879fda445a7271072768c49b6fda34d253c33aef4c34de3c4a1", func := "loop.example/g00216/laws.FnExactNewPage", spec := "fnExactNewPage", apart := false, narrowed := true }
def FnExactNewPageUptoSaid : Prop := fnExactNewPageUptoRow.holds Try.pinned (OpenSpec.upto fnExactNewPageSpec)

/-- 'laws.FnExactPageFault', WHERE WHAT IT READS IS OF BULK AT MOST 1048576: true; the input reads as it did. -/
def fnExactPageFaultUptoRow : OpenClaim := { program := "ytpcjefolhhckjaa", sum := "1ca896719a4c5879fda445a7271072768c49b6fda34d253c33aef4c34de3c4a1", func := "loop.example/g00216/laws.FnExactPageFault", spec := "fnExactPageFault", apart := false, narrowed := true }
def FnExactPageFaultUptoSaid : Prop := fnExactPageFaultUptoRow.holds Try.pinned (OpenSpec.upto fnExactPageFaultSpec)

/-- 'laws.FnExactCellOf', WHERE WHAT IT READS IS OF BULK AT MOST 1048576: true; the input reads as it did. -/
def fnExactCellOfUptoRow : OpenClaim := { program := "ytpcjefolhhckjaa", sum := "1ca896719a4c5879fda445a7271072768c49b6fda34d253c33aef4c34de3c4a1", func := "loop.example/g00216/laws.FnExactCellOf", spec := "fnExactCellOf", unfollowed := true, recurses := true, apart := false, narrowed := true }
def FnExactCellOfUptoSaid : Prop := fnExactCellOfUptoRow.holds Try.pinned (OpenSpec.upto fnExactCellOfSpec)

/-- 'laws.FnExactDropCell', WHERE WHAT IT READS IS OF BULK AT MOST 1048576: true; the input reads as it did. -/
def fnExactDropCellUptoRow : OpenClaim := { program := "ytpcjefolhhckjaa", sum := "1ca896719a4c5879fda445a7271072768c49b6fda34d253c33aef4c34de3c4a1", func := "loop.example/g00216/laws.FnExactDropCell", spec := "fnExactDropCell", unfollowed := true, recurses := true, apart := false, narrowed := true }
def FnExactDropCellUptoSaid : Prop := fnExactDropCellUptoRow.holds Try.pinned (OpenSpec.upto fnExactDropCellSpec)

/-- 'laws.FnExactSetCell', WHERE WHAT IT READS IS OF BULK AT MOST 1048576: true; the input reads as it did. -/
def fnExactSetCellUptoRow : OpenClaim := { program := "ytpcjefolhhckjaa", sum := "1ca896719a4c5879fda445a7271072768c49b6fda34d253c33aef4c34de3c4a1", func := "loop.example/g00216/laws.FnExactSetCell", spec := "fnExactSetCell", inPlace := ["slices.overlaps[loop.example/g00216/impl.Cell]"], unfollowed := true, recurses := true, apart := false, narrowed := true }
def FnExactSetCellUptoSaid : Prop := fnExactSetCellUptoRow.holds Try.pinned (OpenSpec.upto fnExactSetCellSpec)

/-- 'laws.FnCells', WHERE WHAT IT READS IS OF BULK AT MOST 1048576: true; the input reads as it did. -/
def fnCellsUptoRow : OpenClaim := { program := "ytpcjefolhhckjaa", sum := "1ca896719a4c5879fda445a7271072768c49b6fda34d253c33aef4c34de3c4a1", func := "loop.example/g00216/laws.FnCells", spec := "fnCells", inPlace := ["slices.overlaps[loop.example/g00216/impl.Cell]"], unfollowed := true, recurses := true, apart := false, narrowed := true }
def FnCellsUptoSaid : Prop := fnCellsUptoRow.holds Try.pinned (OpenSpec.upto fnCellsSpec)

/-- 'laws.FnExactPackPage', WHERE WHAT IT READS IS OF BULK AT MOST 1048576: true; the input reads as it did. -/
def fnExactPackPageUptoRow : OpenClaim := { program := "ytpcjefolhhckjaa", sum := "1ca896719a4c5879fda445a7271072768c49b6fda34d253c33aef4c34de3c4a1", func := "loop.example/g00216/laws.FnExactPackPage", spec := "fnExactPackPage", apart := false, narrowed := true }
def FnExactPackPageUptoSaid : Prop := fnExactPackPageUptoRow.holds Try.pinned (OpenSpec.upto fnExactPackPageSpec)

/-- 'laws.FnExactUnpackPage', WHERE WHAT IT READS IS OF BULK AT MOST 1048576: true; the input reads as it did. -/
def fnExactUnpackPageUptoRow : OpenClaim := { program := "ytpcjefolhhckjaa", sum := "1ca896719a4c5879fda445a7271072768c49b6fda34d253c33aef4c34de3c4a1", func := "loop.example/g00216/laws.FnExactUnpackPage", spec := "fnExactUnpackPage", apart := false, narrowed := true }
def FnExactUnpackPageUptoSaid : Prop := fnExactUnpackPageUptoRow.holds Try.pinned (OpenSpec.upto fnExactUnpackPageSpec)

/-- 'laws.FnPages', WHERE WHAT IT READS IS OF BULK AT MOST 1048576: true; the input reads as it did. -/
def fnPagesUptoRow : OpenClaim := { program := "ytpcjefolhhckjaa", sum := "1ca896719a4c5879fda445a7271072768c49b6fda34d253c33aef4c34de3c4a1", func := "loop.example/g00216/laws.FnPages", spec := "fnPages", apart := false, narrowed := true }
def FnPagesUptoSaid : Prop := fnPagesUptoRow.holds Try.pinned (OpenSpec.upto fnPagesSpec)

/-- 'laws.FnExactNewDisk', WHERE WHAT IT READS IS OF BULK AT MOST 1048576: true; the input reads as it did. -/
def fnExactNewDiskUptoRow : OpenClaim := { program := "ytpcjefolhhckjaa", sum := "1ca896719a4c5879fda445a7271072768c49b6fda34d253c33aef4c34de3c4a1", func := "loop.example/g00216/laws.FnExactNewDisk", spec := "fnExactNewDisk", apart := false, narrowed := true }
def FnExactNewDiskUptoSaid : Prop := fnExactNewDiskUptoRow.holds Try.pinned (OpenSpec.upto fnExactNewDiskSpec)

end Rows
end Go.Proofs.Ytpcjefolhhckjaa
