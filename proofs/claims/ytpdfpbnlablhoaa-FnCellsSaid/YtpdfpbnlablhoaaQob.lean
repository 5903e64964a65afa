/- A key's cell: what both sides come to. -/
import Derived.Test.YtpdfpbnlablhoaaLb
import Derived.Test.YtpdfpbnlablhoaaQf
import Derived.Test.YtpdfpbnlablhoaaQg
import Derived.Test.YtpdfpbnlablhoaaQh
import Derived.Test.YtpdfpbnlablhoaaQoa
import Derived.Test.YtpdfpbnlablhoaaP0
import Derived.Test.YtpdfpbnlablhoaaPD0
namespace Go.Proofs.Ytpdfpbnlablhoaa.Q
open Go.RowKit Go.Proofs.Ytpdfpbnlablhoaa.P Go.Proofs.YtpdfpbnlablhoaaW.PrintWords Go.Proofs.YtpdfpbnlablhoaaW.PrintLast Go.Proofs.YtpdfpbnlablhoaaW.PrintMore Go.Proofs.Ytpdfpbnlablhoaa.Lb
set_option linter.unusedVariables false
set_option linter.unusedSimpArgs false
def cellOf (id lsn : Int) (l : List S49) (key : Int) : Int × Int := if pf id lsn l = 0 then (if fnd key l 0 < 0 then (4, 0) else (0, (rd_T49 l (fnd key l 0)).f1)) else (pf id lsn l, 0)
theorem implCellOf (id lsn : Int) (l : List S49) (key : Int) (hk : -9223372036854775808 ≤ key ∧ key ≤ 9223372036854775807) (hb : l.length ≤ 1099511627776) : Ev (fun k => impl_CellOf.f k id lsn l key) (cellOf id lsn l key) := by
  unfold impl_CellOf.f cellOf
  refine evCall (implPF id lsn l hb) (evIte (fun h => ?_) (fun h => evRet (by rw [if_neg h])))
  rw [if_pos h]
  obtain ⟨h1, h2⟩ := place_spec l key hk (pf_good h).1 (pf_good h).2
  by_cases h3 : fnd key l 0 < 0
  · refine evSeq (a := (4, 0)) ?_ (evRet (by rw [if_pos h3]))
    unfold impl_valueIn.f impl_place.f
    simp [h1 h3]
  · obtain ⟨h4, h5⟩ := h2 h3
    refine evSeq (a := (0, (rd_T49 l (fnd key l 0)).f1)) ?_ (evRet (by rw [if_neg h3]))
    have hlt : fnd key l 0 < l.length := by
      rcases fnd_spec key l 0 with ⟨h6, _⟩ | ⟨i, hi, h6, _⟩ <;> omega
    unfold impl_valueIn.f impl_place.f
    simp only [Option.bind_some, h4, h5, if_true]
    rw [if_pos (by omega), if_pos hlt]
end Go.Proofs.Ytpdfpbnlablhoaa.Q
