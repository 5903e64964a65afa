/- The marks of an engine, and what is open. -/
import Derived.Test.YtocdahbinombkaaGreatLb
import Derived.Test.YtocdahbinombkaaGreatQf
import Derived.Test.YtocdahbinombkaaGreatQce
import Derived.Test.YtocdahbinombkaaGreatQnx
import Derived.Test.YtocdahbinombkaaGreatQen
import Derived.Test.YtocdahbinombkaaGreatP0
import Derived.Test.YtocdahbinombkaaGreatPDm0
namespace Go.Proofs.YtocdahbinombkaaGreat.Q
open Go.RowKit Go.Proofs.YtocdahbinombkaaGreat.P Go.Proofs.YtocdahbinombkaaGreatW.PrintWords Go.Proofs.YtocdahbinombkaaGreatW.PrintLast Go.Proofs.YtocdahbinombkaaGreatW.PrintMore Go.Proofs.YtocdahbinombkaaGreat.Lb
set_option linter.unusedVariables false
set_option linter.unusedSimpArgs false
theorem markTxn_l : ∀ (d i : Nat) (xs : List S84) (m : Int), xs.length - i = d → i ≤ xs.length → xs.length ≤ 1048576 → (∀ j (h : j < xs.length), i ≤ j → (xs[j]).f4.length ≤ 1048576) → 0 ≤ m → m + 4194308 * d ≤ 1152921504606846976 → ∃ r, Ev (fun k => laws_markTxnS.l0 k xs m (i : Int)) r ∧ 0 ≤ r.1 ∧ r.1 ≤ m + 4194308 * d := by
  intro d
  induction d with
  | zero =>
    intro i xs m hd hi hn hu h0 hm
    refine ⟨(m, xs), evSucc ?_, h0, by simp⟩
    simp only [laws_markTxnS.l0]
    exact evIte (fun h => absurd h (by omega)) (fun _ => evRet rfl)
  | succ d ih =>
    intro i xs m hd hi hn hu h0 hm
    have hlt : i < xs.length := by omega
    have hl := hu i hlt (Nat.le_refl _)
    have e1 : wrap64 (m + 1) = m + 1 := w64 (by omega) (by omega)
    have e2 : wrap64 (m + 1 + 1) = m + 1 + 1 := w64 (by omega) (by omega)
    have e3 : wrap64 (m + 1 + 1 + 1) = m + 1 + 1 + 1 := w64 (by omega) (by omega)
    have e4 : wrap64 (m + 1 + 1 + 1 + 1) = m + 1 + 1 + 1 + 1 := w64 (by omega) (by omega)
    have hmu := markUndoS (xs[i]).f4 (m + 1 + 1 + 1 + 1) (by omega) (by omega) (by omega)
    obtain ⟨r, hr, r0, r1⟩ := ih (i + 1) (xs.set i (⟨m, m + 1, m + 1 + 1, m + 1 + 1 + 1, marked meUndo 4 (m + 1 + 1 + 1 + 1) (xs[i]).f4.length⟩ : S84)) (m + 1 + 1 + 1 + 1 + 4 * (xs[i]).f4.length) (by simp; omega) (by simp; omega) (by simpa using hn) (fun j h hj => by
      have h' : j < xs.length := by simpa using h
      rw [List.getElem_set_ne (by omega)]
      exact hu j h' (by omega)) (by omega) (by omega)
    refine ⟨r, evSucc ?_, r0, by omega⟩
    simp only [laws_markTxnS.l0, rdTxn hlt, e1, e2, e3, e4, Int.toNat_natCast, w64n (show i < 9223372036854775807 by omega)]
    exact evIte (fun _ => evIte (fun _ => evCall hmu hr) (fun h => absurd h (by omega))) (fun h => absurd h (by omega))
theorem markRow_l : ∀ (d i : Nat) (xs : List S87) (m : Int), xs.length - i = d → i ≤ xs.length → xs.length ≤ 1048576 → (∀ j (h : j < xs.length), i ≤ j → (xs[j]).f1.length ≤ 1048576) → 0 ≤ m → m + 4194308 * d ≤ 1152921504606846976 → ∃ r, Ev (fun k => laws_markRowS.l0 k xs m (i : Int)) r ∧ 0 ≤ r.1 ∧ r.1 ≤ m + 4194308 * d := by
  intro d
  induction d with
  | zero =>
    intro i xs m hd hi hn hu h0 hm
    refine ⟨(m, xs), evSucc ?_, h0, by simp⟩
    simp only [laws_markRowS.l0]
    exact evIte (fun h => absurd h (by omega)) (fun _ => evRet rfl)
  | succ d ih =>
    intro i xs m hd hi hn hu h0 hm
    have hlt : i < xs.length := by omega
    have hl := hu i hlt (Nat.le_refl _)
    have e1 : wrap64 (m + 1) = m + 1 := w64 (by omega) (by omega)
    have hmu := markVersionS (xs[i]).f1 (m + 1) (by omega) (by omega) (by omega)
    obtain ⟨r, hr, r0, r1⟩ := ih (i + 1) (xs.set i (⟨m, marked meVersion 4 (m + 1) (xs[i]).f1.length⟩ : S87)) (m + 1 + 4 * (xs[i]).f1.length) (by simp; omega) (by simp; omega) (by simpa using hn) (fun j h hj => by
      have h' : j < xs.length := by simpa using h
      rw [List.getElem_set_ne (by omega)]
      exact hu j h' (by omega)) (by omega) (by omega)
    refine ⟨r, evSucc ?_, r0, by omega⟩
    simp only [laws_markRowS.l0, rdRow hlt, e1, Int.toNat_natCast, w64n (show i < 9223372036854775807 by omega)]
    exact evIte (fun _ => evIte (fun _ => evCall hmu hr) (fun h => absurd h (by omega))) (fun h => absurd h (by omega))
theorem markEngine (a b : Int) (l : List S84) (m : List S87) (h1 : l.length ≤ 1048576) (h2 : m.length ≤ 1048576) (h3 : ∀ x ∈ l, x.f4.length ≤ 1048576) (h4 : ∀ x ∈ m, x.f1.length ≤ 1048576) : ∃ r, Ev (fun k => laws_markEngine.f k a b l m 1) r ∧ ¬ r.1 < 0 := by
  obtain ⟨r, hr, r0, r1⟩ := markTxn_l l.length 0 l 1 (by omega) (by omega) h1 (fun j h _ => h3 _ (List.getElem_mem h)) (by omega) (by omega)
  obtain ⟨s, hs, s0, s1⟩ := markRow_l m.length 0 m r.1 (by omega) (by omega) h2 (fun j h _ => h4 _ (List.getElem_mem h)) r0 (by omega)
  refine ⟨(s.1, r.2, s.2), ?_, by simpa using s0⟩
  unfold laws_markEngine.f laws_markTxnS.f laws_markRowS.f
  exact evCall hr (evCall hs (evRet rfl))
end Go.Proofs.YtocdahbinombkaaGreat.Q
