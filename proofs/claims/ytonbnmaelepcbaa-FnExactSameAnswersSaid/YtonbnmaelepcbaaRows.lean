/-
  No cell of these rows narrows 'for every input' (looked for: loops, veiled, ifaces, maps, wideKeys, modest, calm, conditions, laid).
  DERIVED. THE GIVEN ROWS OF THIS SEAT. 8 by the template 'for every input the law returns true; each argument reads behind the call as it read before'; 0 by the template 'total and deterministic' (their statements: YtonbnmaelepcbaaTotals.lean).
  GIVEN WITH THE SEED: the statements are not yours to turn. If you find one false, say at which input.
  Laid BY PROGRAM, IN A SANDBOX (cutbox-rows.mjs): the forced cells as the released guide's own fill.sh prints them over the translation df45861632964b10… (all of the seat's roots in one cut). By AI agents, Wed Nov 11 2026. No macro, syntax, notation, axiom, sorry.
-/
import Derived.Test.YtonbnmaelepcbaaChecked
import GoSem.Claim
import GoSem.ClaimJoined
import GoSem.ClaimMapViews
import Derived.JoinedTies
import Derived.KernelRfl
namespace Go.Proofs.Ytonbnmaelepcbaa
/- THE CELL 'sum', in the pinned program and in every row, IS THE sha256 OF THE DUMP (.gsa) THAT YtonbnmaelepcbaaProg.lean LOADS. Nothing in Lean hashes anything: it is a label: what it is worth is what the hold of that sum in a sandbox is worth. -/
noncomputable def Try.pinned : Pinned := { name := "ytonbnmaelepcbaa", sum := "df45861632964b10a81efb0d6ea68f35782b8046987e63085d827aecfbc87bd4", checked := Try.checked }
namespace Rows
def none {H : Type} : Left H := { results := [], args := [] }

/-- 'laws.FnExactEngineFault': WHATEVER THE INPUT: true; the input reads as it did. -/
def fnExactEngineFaultSpec : ChangeSpec := { name := "fnExactEngineFault", fn := fun _ => fun
  | [d] => { results := [.lit (.bool true)], args := [d] }
  | _ => none }
def fnExactEngineFaultRow : OpenClaim := { program := "ytonbnmaelepcbaa", sum := "df45861632964b10a81efb0d6ea68f35782b8046987e63085d827aecfbc87bd4", func := "loop.example/g00216/laws.FnExactEngineFault", spec := "fnExactEngineFault", unfollowed := true, recurses := true, apart := false }
def FnExactEngineFaultSaid : Prop := fnExactEngineFaultRow.holds Try.pinned (OpenSpec.ofChange fnExactEngineFaultSpec)

/-- ITS FALSE NEIGHBOUR: 'it returns false'. Refute it at one input. -/
def fnExactEngineFaultWrong : ChangeSpec := { name := "fnExactEngineFault", fn := fun _ => fun
  | [d] => { results := [.lit (.bool false)], args := [d] }
  | _ => none }
def FnExactEngineFaultWrongFalsely : Prop := fnExactEngineFaultRow.holds Try.pinned (OpenSpec.ofChange fnExactEngineFaultWrong)

/-- 'laws.FnExactNewEngine': WHATEVER THE INPUT: true; the input reads as it did. -/
def fnExactNewEngineSpec : ChangeSpec := { name := "fnExactNewEngine", fn := fun _ => fun
  | [d] => { results := [.lit (.bool true)], args := [d] }
  | _ => none }
def fnExactNewEngineRow : OpenClaim := { program := "ytonbnmaelepcbaa", sum := "df45861632964b10a81efb0d6ea68f35782b8046987e63085d827aecfbc87bd4", func := "loop.example/g00216/laws.FnExactNewEngine", spec := "fnExactNewEngine", apart := false }
def FnExactNewEngineSaid : Prop := fnExactNewEngineRow.holds Try.pinned (OpenSpec.ofChange fnExactNewEngineSpec)

/-- ITS FALSE NEIGHBOUR: 'it returns false'. Refute it at one input. -/
def fnExactNewEngineWrong : ChangeSpec := { name := "fnExactNewEngine", fn := fun _ => fun
  | [d] => { results := [.lit (.bool false)], args := [d] }
  | _ => none }
def FnExactNewEngineWrongFalsely : Prop := fnExactNewEngineRow.holds Try.pinned (OpenSpec.ofChange fnExactNewEngineWrong)

/-- 'laws.FnExactFloorOf': WHATEVER THE INPUT: true; the input reads as it did. -/
def fnExactFloorOfSpec : ChangeSpec := { name := "fnExactFloorOf", fn := fun _ => fun
  | [d] => { results := [.lit (.bool true)], args := [d] }
  | _ => none }
def fnExactFloorOfRow : OpenClaim := { program := "ytonbnmaelepcbaa", sum := "df45861632964b10a81efb0d6ea68f35782b8046987e63085d827aecfbc87bd4", func := "loop.example/g00216/laws.FnExactFloorOf", spec := "fnExactFloorOf", unfollowed := true, recurses := true, apart := false }
def FnExactFloorOfSaid : Prop := fnExactFloorOfRow.holds Try.pinned (OpenSpec.ofChange fnExactFloorOfSpec)

/-- ITS FALSE NEIGHBOUR: 'it returns false'. Refute it at one input. -/
def fnExactFloorOfWrong : ChangeSpec := { name := "fnExactFloorOf", fn := fun _ => fun
  | [d] => { results := [.lit (.bool false)], args := [d] }
  | _ => none }
def FnExactFloorOfWrongFalsely : Prop := fnExactFloorOfRow.holds Try.pinned (OpenSpec.ofChange fnExactFloorOfWrong)

/-- 'laws.FnExactReadKey': WHATEVER THE INPUT: true; the input reads as it did. -/
def fnExactReadKeySpec : ChangeSpec := { name := "fnExactReadKey", fn := fun _ => fun
  | [d1, d2, d3] => { results := [.lit (.bool true)], args := [d1, d2, d3] }
  | _ => none }
def fnExactReadKeyRow : OpenClaim := { program := "ytonbnmaelepcbaa", sum := "df45861632964b10a81efb0d6ea68f35782b8046987e63085d827aecfbc87bd4", func := "loop.example/g00216/laws.FnExactReadKey", spec := "fnExactReadKey", unfollowed := true, recurses := true, apart := false }
def FnExactReadKeySaid : Prop := fnExactReadKeyRow.holds Try.pinned (OpenSpec.ofChange fnExactReadKeySpec)

/-- ITS FALSE NEIGHBOUR: 'it returns false'. Refute it at one input. -/
def fnExactReadKeyWrong : ChangeSpec := { name := "fnExactReadKey", fn := fun _ => fun
  | [d1, d2, d3] => { results := [.lit (.bool false)], args := [d1, d2, d3] }
  | _ => none }
def FnExactReadKeyWrongFalsely : Prop := fnExactReadKeyRow.holds Try.pinned (OpenSpec.ofChange fnExactReadKeyWrong)

/-- 'laws.FnExactHistoryOf': WHATEVER THE INPUT: true; the input reads as it did. -/
def fnExactHistoryOfSpec : ChangeSpec := { name := "fnExactHistoryOf", fn := fun _ => fun
  | [d1, d2] => { results := [.lit (.bool true)], args := [d1, d2] }
  | _ => none }
def fnExactHistoryOfRow : OpenClaim := { program := "ytonbnmaelepcbaa", sum := "df45861632964b10a81efb0d6ea68f35782b8046987e63085d827aecfbc87bd4", func := "loop.example/g00216/laws.FnExactHistoryOf", spec := "fnExactHistoryOf", unfollowed := true, recurses := true, apart := false }
def FnExactHistoryOfSaid : Prop := fnExactHistoryOfRow.holds Try.pinned (OpenSpec.ofChange fnExactHistoryOfSpec)

/-- ITS FALSE NEIGHBOUR: 'it returns false'. Refute it at one input. -/
def fnExactHistoryOfWrong : ChangeSpec := { name := "fnExactHistoryOf", fn := fun _ => fun
  | [d1, d2] => { results := [.lit (.bool false)], args := [d1, d2] }
  | _ => none }
def FnExactHistoryOfWrongFalsely : Prop := fnExactHistoryOfRow.holds Try.pinned (OpenSpec.ofChange fnExactHistoryOfWrong)

/-- 'laws.FnExactOpenTxns': WHATEVER THE INPUT: true; the input reads as it did. -/
def fnExactOpenTxnsSpec : ChangeSpec := { name := "fnExactOpenTxns", fn := fun _ => fun
  | [d] => { results := [.lit (.bool true)], args := [d] }
  | _ => none }
def fnExactOpenTxnsRow : OpenClaim := { program := "ytonbnmaelepcbaa", sum := "df45861632964b10a81efb0d6ea68f35782b8046987e63085d827aecfbc87bd4", func := "loop.example/g00216/laws.FnExactOpenTxns", spec := "fnExactOpenTxns", unfollowed := true, recurses := true, apart := false }
def FnExactOpenTxnsSaid : Prop := fnExactOpenTxnsRow.holds Try.pinned (OpenSpec.ofChange fnExactOpenTxnsSpec)

/-- ITS FALSE NEIGHBOUR: 'it returns false'. Refute it at one input. -/
def fnExactOpenTxnsWrong : ChangeSpec := { name := "fnExactOpenTxns", fn := fun _ => fun
  | [d] => { results := [.lit (.bool false)], args := [d] }
  | _ => none }
def FnExactOpenTxnsWrongFalsely : Prop := fnExactOpenTxnsRow.holds Try.pinned (OpenSpec.ofChange fnExactOpenTxnsWrong)

/-- 'laws.FnExactSameAnswers': WHATEVER THE INPUT: true; the input reads as it did. -/
def fnExactSameAnswersSpec : ChangeSpec := { name := "fnExactSameAnswers", fn := fun _ => fun
  | [d1, d2] => { results := [.lit (.bool true)], args := [d1, d2] }
  | _ => none }
def fnExactSameAnswersRow : OpenClaim := { program := "ytonbnmaelepcbaa", sum := "df45861632964b10a81efb0d6ea68f35782b8046987e63085d827aecfbc87bd4", func := "loop.example/g00216/laws.FnExactSameAnswers", spec := "fnExactSameAnswers", unfollowed := true, recurses := true, apart := false }
def FnExactSameAnswersSaid : Prop := fnExactSameAnswersRow.holds Try.pinned (OpenSpec.ofChange fnExactSameAnswersSpec)

/-- ITS FALSE NEIGHBOUR: 'it returns false'. Refute it at one input. -/
def fnExactSameAnswersWrong : ChangeSpec := { name := "fnExactSameAnswers", fn := fun _ => fun
  | [d1, d2] => { results := [.lit (.bool false)], args := [d1, d2] }
  | _ => none }
def FnExactSameAnswersWrongFalsely : Prop := fnExactSameAnswersRow.holds Try.pinned (OpenSpec.ofChange fnExactSameAnswersWrong)

/-- 'laws.FnExactScanKeys': WHATEVER THE INPUT: true; the input reads as it did. -/
def fnExactScanKeysSpec : ChangeSpec := { name := "fnExactScanKeys", fn := fun _ => fun
  | [d1, d2, d3, d4] => { results := [.lit (.bool true)], args := [d1, d2, d3, d4] }
  | _ => none }
def fnExactScanKeysRow : OpenClaim := { program := "ytonbnmaelepcbaa", sum := "df45861632964b10a81efb0d6ea68f35782b8046987e63085d827aecfbc87bd4", func := "loop.example/g00216/laws.FnExactScanKeys", spec := "fnExactScanKeys", unfollowed := true, recurses := true, apart := false }
def FnExactScanKeysSaid : Prop := fnExactScanKeysRow.holds Try.pinned (OpenSpec.ofChange fnExactScanKeysSpec)

/-- ITS FALSE NEIGHBOUR: 'it returns false'. Refute it at one input. -/
def fnExactScanKeysWrong : ChangeSpec := { name := "fnExactScanKeys", fn := fun _ => fun
  | [d1, d2, d3, d4] => { results := [.lit (.bool false)], args := [d1, d2, d3, d4] }
  | _ => none }
def FnExactScanKeysWrongFalsely : Prop := fnExactScanKeysRow.holds Try.pinned (OpenSpec.ofChange fnExactScanKeysWrong)

/- THE SECOND FORM. 'bulk': how many values and letters a reading holds, each counted each time it is reached (what is shared counts as often as it is met; a slice's spare places count too). A statement '..UptoSaid' is the law's where the arguments, and the package variables that the reading takes, are together of bulk at most 1048576: NARROWER than '..Said'. Prove '..Said' where nothing that the law and all that it calls make is longer than what came in: it says more and counts as full. Else prove '..UptoSaid'. A law counts once. -/
mutual
def uptoBulk {H : Type} : DataW H → Nat
  | .lit (.string bytes) => bytes.length + 1
  | .lit _ => 1
  | .nil => 1
  | .ptr d => uptoBulk d + 1
  | .slice elems spare => uptoBulkAll elems + uptoBulkAll spare + 1
  | .agg parts => uptoBulkAll parts + 1
  | .iface _ d => uptoBulk d + 1
  | .map entries => uptoBulkEntries entries + 1
  | .held _ => 1
def uptoBulkAll {H : Type} : List (DataW H) → Nat
  | [] => 0
  | d :: r => uptoBulk d + uptoBulkAll r
def uptoBulkEntries {H : Type} : List (Lit × DataW H) → Nat
  | [] => 0
  | x :: r => uptoBulkEntry x + uptoBulkEntries r
def uptoBulkEntry {H : Type} : Lit × DataW H → Nat
  | (.string bytes, d) => bytes.length + uptoBulk d + 1
  | (_, d) => uptoBulk d + 1
 end
def uptoSmall : (H : Type) → List (DataW H) → Bool := fun _ ds => decide (uptoBulkAll ds ≤ 1048576)
def OpenSpec.upto (s : _root_.Go.ChangeSpec) : _root_.Go.OpenSpec := { _root_.Go.OpenSpec.ofChange s with cond := some uptoSmall }

/-- 'laws.FnExactEngineFault', WHERE WHAT IT READS IS OF BULK AT MOST 1048576: true; the input reads as it did. -/
def fnExactEngineFaultUptoRow : OpenClaim := { program := "ytonbnmaelepcbaa", sum := "df45861632964b10a81efb0d6ea68f35782b8046987e63085d827aecfbc87bd4", func := "loop.example/g00216/laws.FnExactEngineFault", spec := "fnExactEngineFault", unfollowed := true, recurses := true, apart := false, narrowed := true }
def FnExactEngineFaultUptoSaid : Prop := fnExactEngineFaultUptoRow.holds Try.pinned (OpenSpec.upto fnExactEngineFaultSpec)

/-- 'laws.FnExactNewEngine', WHERE WHAT IT READS IS OF BULK AT MOST 1048576: true; the input reads as it did. -/
def fnExactNewEngineUptoRow : OpenClaim := { program := "ytonbnmaelepcbaa", sum := "df45861632964b10a81efb0d6ea68f35782b8046987e63085d827aecfbc87bd4", func := "loop.example/g00216/laws.FnExactNewEngine", spec := "fnExactNewEngine", apart := false, narrowed := true }
def FnExactNewEngineUptoSaid : Prop := fnExactNewEngineUptoRow.holds Try.pinned (OpenSpec.upto fnExactNewEngineSpec)

/-- 'laws.FnExactFloorOf', WHERE WHAT IT READS IS OF BULK AT MOST 1048576: true; the input reads as it did. -/
def fnExactFloorOfUptoRow : OpenClaim := { program := "ytonbnmaelepcbaa", sum := "df45861632964b10a81efb0d6ea68f35782b8046987e63085d827aecfbc87bd4", func := "loop.example/g00216/laws.FnExactFloorOf", spec := "fnExactFloorOf", unfollowed := true, recurses := true, apart := false, narrowed := true }
def FnExactFloorOfUptoSaid : Prop := fnExactFloorOfUptoRow.holds Try.pinned (OpenSpec.upto fnExactFloorOfSpec)

/-- 'laws.FnExactReadKey', WHERE WHAT IT READS IS OF BULK AT MOST 1048576: true; the input reads as it did. -/
def fnExactReadKeyUptoRow : OpenClaim := { program := "ytonbnmaelepcbaa", sum := "df45861632964b10a81efb0d6ea68f35782b8046987e63085d827aecfbc87bd4", func := "loop.example/g00216/laws.FnExactReadKey", spec := "fnExactReadKey", unfollowed := true, recurses := true, apart := false, narrowed := true }
def FnExactReadKeyUptoSaid : Prop := fnExactReadKeyUptoRow.holds Try.pinned (OpenSpec.upto fnExactReadKeySpec)

/-- 'laws.FnExactHistoryOf', WHERE WHAT IT READS IS OF BULK AT MOST 1048576: true; the input reads as it did. -/
def fnExactHistoryOfUptoRow : OpenClaim := { program := "ytonbnmaelepcbaa", sum := "df45861632964b10a81efb0d6ea68f35782b8046987e63085d827aecfbc87bd4", func := "loop.example/g00216/laws.FnExactHistoryOf", spec := "fnExactHistoryOf", unfollowed := true, recurses := true, apart := false, narrowed := true }
def FnExactHistoryOfUptoSaid : Prop := fnExactHistoryOfUptoRow.holds Try.pinned (OpenSpec.upto fnExactHistoryOfSpec)

/-- 'laws.FnExactOpenTxns', WHERE WHAT IT READS IS OF BULK AT MOST 1048576: true; the input reads as it did. -/
def fnExactOpenTxnsUptoRow : OpenClaim := { program := "ytonbnmaelepcbaa", sum := "df45861632964b10a81efb0d6ea68f35782b8046987e63085d827aecfbc87bd4", func := "loop.example/g00216/laws.FnExactOpenTxns", spec := "fnExactOpenTxns", unfollowed := true, recurses := true, apart := false, narrowed := true }
def FnExactOpenTxnsUptoSaid : Prop := fnExactOpenTxnsUptoRow.holds Try.pinned (OpenSpec.upto fnExactOpenTxnsSpec)

/-- 'laws.FnExactSameAnswers', WHERE WHAT IT READS IS OF BULK AT MOST 1048576: true; the input reads as it did. -/
def fnExactSameAnswersUptoRow : OpenClaim := { program := "ytonbnmaelepcbaa", sum := "df45861632964b10a81efb0d6ea68f35782b8046987e63085d827aecfbc87bd4", func := "loop.example/g00216/laws.FnExactSameAnswers", spec := "fnExactSameAnswers", unfollowed := true, recurses := true, apart := false, narrowed := true }
def FnExactSameAnswersUptoSaid : Prop := fnExactSameAnswersUptoRow.holds Try.pinned (OpenSpec.upto fnExactSameAnswersSpec)

/-- 'laws.FnExactScanKeys', WHERE WHAT IT READS IS OF BULK AT MOST 1048576: true; the input reads as it did. -/
def fnExactScanKeysUptoRow : OpenClaim := { program := "ytonbnmaelepcbaa", sum := "df45861632964b10a81efb0d6ea68f35782b8046987e63085d827aecfbc87bd4", func := "loop.example/g00216/laws.FnExactScanKeys", spec := "fnExactScanKeys", unfollowed := true, recurses := true, apart := false, narrowed := true }
def FnExactScanKeysUptoSaid : Prop := fnExactScanKeysUptoRow.holds Try.pinned (OpenSpec.upto fnExactScanKeysSpec)

end Rows
end Go.Proofs.Ytonbnmaelepcbaa
