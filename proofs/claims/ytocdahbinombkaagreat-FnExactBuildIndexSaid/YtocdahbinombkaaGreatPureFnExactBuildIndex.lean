/- The pure statement of BuildIndex's exact law: both sides build the same pairs of every engine; the argument stays; the answer's memory is its own. -/
import Derived.Test.YtocdahbinombkaaGreatUFnExactBuildIndex
import Derived.Test.YtocdahbinombkaaGreatQbi
import Derived.Test.YtocdahbinombkaaGreatQmk
import Derived.Test.YtocdahbinombkaaGreatP0
import Derived.Test.YtocdahbinombkaaGreatPDall0
import Derived.Test.YtocdahbinombkaaGreatPDm0
namespace Go.Proofs.YtocdahbinombkaaGreat.Pure
open Go.RowKit Go.Proofs.YtocdahbinombkaaGreat.P Go.Proofs.YtocdahbinombkaaGreat.Q Go.Proofs.YtocdahbinombkaaGreatW.PrintWords Go.Proofs.YtocdahbinombkaaGreatW.PrintLast Go.Proofs.YtocdahbinombkaaGreatW.PrintMore Go.Proofs.YtocdahbinombkaaGreat.Lb
theorem eqPR (c : Int) (l : List S55) (hb : l.length ≤ 1099511627776) : Ev (fun k => laws_eqPairsResult.f k c l c l) true := by
  unfold laws_eqPairsResult.f
  exact evIte (fun _ => evCall (eqPairS l hb) (evIte (fun _ => evRet rfl) (fun h => absurd rfl h))) (fun h => absurd rfl h)
theorem markPR (c : Int) (l : List S55) (hb : l.length ≤ 1099511627776) : Ev (fun k => laws_markPairsResult.f k c l 1) (1 + 2 * l.length, marked mePair 2 1 l.length) := by
  unfold laws_markPairsResult.f
  exact evCall (markPairS l 1 (by omega) (by omega) hb) (evRet rfl)
theorem heldPR (c : Int) (n : Nat) (hb : n ≤ 1099511627776) : Ev (fun k => laws_heldPairsResult.f k c (marked mePair 2 1 n) 1) (1 + 2 * n) := by
  unfold laws_heldPairsResult.f
  exact evCall (heldPairS n 1 (by omega) (by omega) hb) (evIte (fun h => absurd h (by omega)) (fun _ => evRet rfl))
def biF (nx ck : Int) (txns : List S84) (rows : List S87) : Int × List S55 := if faultF cf nx ck txns rows = 0 then (0, bld (prs rows) []) else (faultF cf nx ck txns rows, [])
theorem biF_len (nx ck : Int) (txns : List S84) (rows : List S87) : (biF nx ck txns rows).2.length ≤ 1048576 := by
  unfold biF
  by_cases h0 : faultF cf nx ck txns rows = 0
  · rw [if_pos h0]
    obtain ⟨_, _, _, h32, _, hR⟩ := fault_ok h0
    obtain ⟨_, b2, _⟩ := bld_good (prs rows) [] (prs_ok hR) ⟨by simp, List.Pairwise.nil⟩
    have b3 := prs_len rows (fun r h => (row_ok hR h).2.2)
    simp at b2 ⊢
    omega
  · rw [if_neg h0]; simp
theorem specBI (nx ck : Int) (txns : List S84) (rows : List S87) (hr : ∀ r ∈ rows, r.f1.length ≤ 1048576) : Ev (fun k => spec_BuildIndex.f k nx ck txns rows) (biF nx ck txns rows) := by
  unfold spec_BuildIndex.f biF
  refine evCall (specFault nx ck txns rows (fun r h => by have := hr r h; omega)) (evIte (fun h0 => ?_) (fun h0 => evRet (by rw [if_neg h0])))
  rw [if_pos h0]
  obtain ⟨_, _, _, h32, _, hR⟩ := fault_ok h0
  exact evCall (specBuild hR h32 nx ck txns) (evRet rfl)
theorem implBI (nx ck : Int) (txns : List S84) (rows : List S87) (ht : ∀ t ∈ txns, t.f4.length ≤ 1048576) (hr : ∀ r ∈ rows, r.f1.length ≤ 1048576) : Ev (fun k => impl_BuildIndex.f k nx ck txns rows) (biF nx ck txns rows) := by
  unfold impl_BuildIndex.f biF
  refine evCall (implEF nx ck txns rows ht hr) (evIte (fun h0 => ?_) (fun h0 => evRet (by rw [if_neg h0])))
  rw [if_pos h0]
  obtain ⟨_, _, _, h32, _, hR⟩ := fault_ok h0
  exact evCall (implPairs hR h32 nx ck txns) (evRet rfl)
theorem FnExactBuildIndex : laws_FnExactBuildIndex.Pure := by
  intro a b l m _ _ hl hm
  refine Ev.rounds ?_
  unfold laws_FnExactBuildIndex.f
  have hml : maxLen = 9223372036854775807 := rfl
  obtain ⟨t, ht, hs⟩ := szEngine a b l m 1048576 (by omega) (by omega) (by have := hl.2.1; omega) (by have := hm.2.1; omega) (fun x hx => by have := (hl.2.2 x hx).2.2.2.2.2.1; omega) (fun x hx => by have := (hm.2.2 x hx).2.2.1; omega)
  refine evCall ht (evIte (fun _ => evRet rfl) (fun h => ?_))
  obtain ⟨_, s1, s2, s3, s4⟩ := hs h
  have hto := toEngine a b l m s1 s2 s3 s4
  have b1 : (l.map cvTxn).length ≤ 1048576 := by simpa using s1
  have b2 : (m.map cvRow).length ≤ 1048576 := by simpa using s2
  have b3 : ∀ x ∈ l.map cvTxn, x.f4.length ≤ 1048576 := fun x hx => by obtain ⟨y, hy, rfl⟩ := List.mem_map.1 hx; simpa [cvTxn] using s3 y hy
  have b4 : ∀ x ∈ m.map cvRow, x.f1.length ≤ 1048576 := fun x hx => by obtain ⟨y, hy, rfl⟩ := List.mem_map.1 hx; simpa [cvRow] using s4 y hy
  have hn := biF_len a b (l.map cvTxn) (m.map cvRow)
  obtain ⟨r, hr, r0⟩ := markEngine a b _ _ b1 b2 b3 b4
  have S := specBI a b (l.map cvTxn) (m.map cvRow) b4
  have I := implBI a b (l.map cvTxn) (m.map cvRow) b3 b4
  generalize biF a b (l.map cvTxn) (m.map cvRow) = bi at S I hn
  obtain ⟨c, out⟩ := bi
  have hn : out.length ≤ 1048576 := hn
  refine evCall hto (evCall S (evCall I (evCall (eqPR c out (by omega)) (evIte (fun _ => ?_) (fun h => absurd rfl h)))))
  refine evCall (eqEngine a b _ _ b1 b2 b3 b4) (evIte (fun _ => ?_) (fun h => absurd rfl h))
  refine evCall hr (evIte (fun h => absurd h r0) (fun _ => ?_))
  exact evCall (markPR c out (by omega)) (evCall (heldPR c out.length (by omega)) (evIte (fun h => absurd h (by omega)) (fun _ => evIte (fun _ => evRet rfl) (fun h => absurd rfl h))))
end Go.Proofs.YtocdahbinombkaaGreat.Pure
