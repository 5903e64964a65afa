/- A key's history. -/
import Derived.Test.YtonbnmaelepcbaaLb
import Derived.Test.YtonbnmaelepcbaaQf
import Derived.Test.YtonbnmaelepcbaaQce
import Derived.Test.YtonbnmaelepcbaaQnx
import Derived.Test.YtonbnmaelepcbaaQen
import Derived.Test.YtonbnmaelepcbaaQmk
import Derived.Test.YtonbnmaelepcbaaP0
import Derived.Test.YtonbnmaelepcbaaPDacdefgh0
import Derived.Test.YtonbnmaelepcbaaPDm2
namespace Go.Proofs.Ytonbnmaelepcbaa.Q
open Go.RowKit Go.Proofs.Ytonbnmaelepcbaa.P Go.Proofs.YtonbnmaelepcbaaW.PrintWords Go.Proofs.YtonbnmaelepcbaaW.PrintLast Go.Proofs.YtonbnmaelepcbaaW.PrintMore Go.Proofs.Ytonbnmaelepcbaa.Lb
set_option linter.unusedVariables false
set_option linter.unusedSimpArgs false
theorem specCopy (l : List S90) (h : l.length ≤ 1048576) : spec_l5Copy.f l = some l := by
  unfold spec_l5Copy.f
  simp only [Option.bind_some, List.length_nil, List.nil_append]
  rw [if_pos (by omega)]
theorem implCopy (l : List S90) (h : l.length ≤ 1048576) : slices_Clone_impl_Version.f l = some l := by
  unfold slices_Clone_impl_Version.f
  simp only [Option.bind_some, List.length_nil, List.nil_append]
  rw [if_pos (by omega)]
def histOf (nx ck : Int) (l : List S83) (m : List S87) (key : Int) : Int × List S90 := if faultF cf nx ck l m = 0 then (if inB key 0 31 = true then (0, chainF m key) else (3, [])) else (faultF cf nx ck l m, [])
theorem inB_iff (a b c : Int) : inB a b c = true ↔ b ≤ a ∧ a ≤ c := by simp [inB]
theorem chain_len {m : List S87} (hR : RwOK m) (hr : ∀ r ∈ m, r.f1.length ≤ 1048576) {key : Int} (h0 : 0 ≤ key) (h1 : key ≤ 31) : (chainF m key).length ≤ 1048576 := by
  rcases row_or m key with ⟨n, hn, e⟩ | hno
  · rw [← e, chain_at hR hn, getD_at hn]
    exact hr _ (List.getElem_mem hn)
  · rw [chain_none hR h0 h1 hno]; simp
theorem histOf_len (nx ck : Int) (l : List S83) (m : List S87) (key : Int) (hr : ∀ r ∈ m, r.f1.length ≤ 1048576) : (histOf nx ck l m key).2.length ≤ 1048576 := by
  unfold histOf
  split
  · rename_i h
    obtain ⟨-, -, -, -, -, hR⟩ := fault_ok h
    split
    · rename_i hk
      obtain ⟨h0, h1⟩ := (inB_iff _ _ _).1 hk
      exact chain_len hR hr h0 h1
    · simp
  · simp
theorem specHist (nx ck : Int) (l : List S83) (m : List S87) (key : Int) (hr : ∀ r ∈ m, r.f1.length ≤ 1048576) : Ev (fun k => spec_HistoryOf.f k nx ck l m key) (histOf nx ck l m key) := by
  unfold spec_HistoryOf.f histOf
  refine evCall (specFault nx ck l m (fun r h => by have := hr r h; omega)) (evIte (fun h => ?_) (fun h => ?_))
  · rw [if_pos h]
    obtain ⟨-, -, -, -, -, hR⟩ := fault_ok h
    refine evIte (fun hk => ?_) (fun hk => ?_)
    · rw [if_pos hk]
      obtain ⟨h0, h1⟩ := (inB_iff _ _ _).1 hk
      have hlen := chain_len hR hr h0 h1
      rcases row_or m key with ⟨n, hn, e⟩ | hno
      · obtain ⟨-, -, hi⟩ := row_at hR hn
        have hc := chain_at hR hn
        rw [e] at hi hc
        refine evIte (fun h2 => absurd h2 (by rw [hi]; omega)) (fun _ => ?_)
        rw [hi, Int.toNat_natCast, ← hc]
        exact evSeq (specCopy _ hlen) (evRet rfl)
      · obtain ⟨-, hi⟩ := row_none hR h0 h1 hno
        have hc := chain_none hR h0 h1 hno
        refine evIte (fun h2 => ?_) (fun h2 => absurd hi (by omega))
        rw [hc]
        exact evRet rfl
    · rw [if_neg hk]; exact evRet rfl
  · rw [if_neg h]; exact evRet rfl
theorem implHist (nx ck : Int) (l : List S83) (m : List S87) (key : Int) (ht : ∀ t ∈ l, t.f4.length ≤ 1048576) (hr : ∀ r ∈ m, r.f1.length ≤ 1048576) : Ev (fun k => impl_HistoryOf.f k nx ck l m key) (histOf nx ck l m key) := by
  unfold impl_HistoryOf.f histOf
  refine evCall (implEF nx ck l m ht hr) (evIte (fun h => ?_) (fun h => ?_))
  · rw [if_pos h]
    obtain ⟨-, -, -, -, -, hR⟩ := fault_ok h
    refine evIte (fun hk => ?_) (fun hk => ?_)
    · rw [if_pos hk]
      obtain ⟨h0, h1⟩ := (inB_iff _ _ _).1 hk
      exact evSeq (implCopy _ (chain_len hR hr h0 h1)) (evRet rfl)
    · rw [if_neg hk]; exact evRet rfl
  · rw [if_neg h]; exact evRet rfl
theorem eqChainR (a : Int) (l : List S90) (h : l.length ≤ 1048576) : Ev (fun k => laws_eqChainResult.f k a l a l) true := by
  unfold laws_eqChainResult.f
  exact evIte (fun _ => evCall (eqVersionS l (by omega)) (evIte (fun _ => evRet rfl) (fun h => absurd rfl h))) (fun h => absurd rfl h)
theorem markChainR (a : Int) (l : List S90) (h : l.length ≤ 1048576) : Ev (fun k => laws_markChainResult.f k a l 1) (1 + 4 * (l.length : Int), marked meVersion 4 1 l.length) := by
  unfold laws_markChainResult.f
  exact evCall (markVersionS l 1 (by omega) (by omega) (by omega)) (evRet rfl)
theorem heldChainR (a : Int) (n : Nat) (h : n ≤ 1048576) : Ev (fun k => laws_heldChainResult.f k a (marked meVersion 4 1 n) 1) (1 + 4 * (n : Int)) := by
  unfold laws_heldChainResult.f
  exact evCall (heldVersionS n 1 (by omega) (by omega) (by omega)) (evIte (fun h => absurd h (by omega)) (fun _ => evRet rfl))
end Go.Proofs.Ytonbnmaelepcbaa.Q
