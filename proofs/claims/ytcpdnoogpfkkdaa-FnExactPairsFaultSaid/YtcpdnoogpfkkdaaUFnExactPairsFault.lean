/- The pure statement of FnExactPairsFault. -/
import Derived.Test.YtcpdnoogpfkkdaaWf
import Derived.Test.YtcpdnoogpfkkdaaPD0
namespace Go.Proofs.Ytcpdnoogpfkkdaa.P
open Go.RowKit Go.Proofs.YtcpdnoogpfkkdaaW.PrintWords Go.Proofs.YtcpdnoogpfkkdaaW.PrintLast Go.Proofs.Ytcpdnoogpfkkdaa.Op
def laws_FnExactPairsFault.Pure : Prop := ∀ (l0 : List (S41)), (fun xs : List (S41) => xs.length * Try.prog.bytesOf 41 ≤ reachBytes ∧ xs.length ≤ maxLen ∧ ∀ x ∈ xs, wf41 x) l0 → ∃ k, laws_FnExactPairsFault.f k l0 = some true
end Go.Proofs.Ytcpdnoogpfkkdaa.P
