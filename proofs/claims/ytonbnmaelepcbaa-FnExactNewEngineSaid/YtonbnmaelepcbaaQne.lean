/- A new engine. -/
import Derived.Test.YtonbnmaelepcbaaLb
import Derived.Test.YtonbnmaelepcbaaQf
import Derived.Test.YtonbnmaelepcbaaQce
import Derived.Test.YtonbnmaelepcbaaQnx
import Derived.Test.YtonbnmaelepcbaaQen
import Derived.Test.YtonbnmaelepcbaaQmk
import Derived.Test.YtonbnmaelepcbaaP0
import Derived.Test.YtonbnmaelepcbaaPDb0
import Derived.Test.YtonbnmaelepcbaaPDm0
import Derived.Test.YtonbnmaelepcbaaPDm1
namespace Go.Proofs.Ytonbnmaelepcbaa.Q
open Go.RowKit Go.Proofs.Ytonbnmaelepcbaa.P Go.Proofs.YtonbnmaelepcbaaW.PrintWords Go.Proofs.YtonbnmaelepcbaaW.PrintLast Go.Proofs.YtonbnmaelepcbaaW.PrintMore Go.Proofs.Ytonbnmaelepcbaa.Lb
set_option linter.unusedVariables false
set_option linter.unusedSimpArgs false
/-- What is marked is held: rows. -/
theorem markRowH : ∀ (d i : Nat) (xs : List S87) (m : Int), xs.length - i = d → i ≤ xs.length → xs.length ≤ 1048576 → (∀ j (h : j < xs.length), i ≤ j → (xs[j]).f1.length ≤ 1048576) → 0 ≤ m → m + 4194308 * d ≤ 1152921504606846976 → ∃ r, Ev (fun k => laws_markRowS.l0 k xs m (i : Int)) r ∧ 0 ≤ r.1 ∧ r.1 ≤ m + 4194308 * d ∧ r.2.length = xs.length ∧ (∀ j, j < i → r.2[j]? = xs[j]?) ∧ Ev (fun k => laws_heldRowS.l0 k r.2 m (i : Int)) r.1 := by
  intro d
  induction d with
  | zero =>
    intro i xs m hd hi hn hu h0 hm
    refine ⟨(m, xs), evSucc ?_, h0, by simp, rfl, fun _ _ => rfl, evSucc ?_⟩
    · simp only [laws_markRowS.l0]
      exact evIte (fun h => absurd h (by omega)) (fun _ => evRet rfl)
    · simp only [laws_heldRowS.l0]
      exact evIte (fun h => absurd h (by omega)) (fun _ => evRet rfl)
  | succ d ih =>
    intro i xs m hd hi hn hu h0 hm
    have hlt : i < xs.length := by omega
    have hl := hu i hlt (Nat.le_refl _)
    have e1 : wrap64 (m + 1) = m + 1 := w64 (by omega) (by omega)
    have hmu := markVersionS (xs[i]).f1 (m + 1) (by omega) (by omega) (by omega)
    have hhe := heldVersionS (xs[i]).f1.length (m + 1) (by omega) (by omega) (by omega)
    obtain ⟨r, hr, r0, r1, rl, re, rh⟩ := ih (i + 1) (xs.set i (⟨m, marked meVersion 4 (m + 1) (xs[i]).f1.length⟩ : S87)) (m + 1 + 4 * (xs[i]).f1.length) (by simp; omega) (by simp; omega) (by simpa using hn) (fun j h hj => by
      have h' : j < xs.length := by simpa using h
      rw [List.getElem_set_ne (by omega)]
      exact hu j h' (by omega)) (by omega) (by omega)
    have rl' : r.2.length = xs.length := by simpa using rl
    have hri : i < r.2.length := by omega
    have hx : r.2[i] = (⟨m, marked meVersion 4 (m + 1) (xs[i]).f1.length⟩ : S87) := by
      have h2 := re i (by omega)
      rw [List.getElem?_eq_getElem hri, List.getElem?_set_self hlt] at h2
      exact Option.some.inj h2
    refine ⟨r, evSucc ?_, r0, by omega, rl', fun j hj => by rw [re j (by omega), List.getElem?_set_ne (by omega)], evSucc ?_⟩
    · simp only [laws_markRowS.l0, rdRow hlt, e1, Int.toNat_natCast, w64n (show i < 9223372036854775807 by omega)]
      exact evIte (fun _ => evIte (fun _ => evCall hmu hr) (fun h => absurd h (by omega))) (fun h => absurd h (by omega))
    · simp only [laws_heldRowS.l0, rdRow hri, hx, e1, w64n (show i < 9223372036854775807 by omega)]
      exact evIte (fun _ => evIte (fun _ => evIte (fun _ => evCall hhe (evIte (fun h => absurd h (by omega)) (fun _ => rh))) (fun h => absurd trivial h)) (fun h => absurd h (by omega))) (fun h => absurd h (by omega))
theorem markHeldR (a b c e : Int) (m : List S87) (h2 : m.length ≤ 1048576) (h4 : ∀ x ∈ m, x.f1.length ≤ 1048576) : ∃ r, Ev (fun k => laws_markEngineResult.f k a b c e [] m 1) r ∧ 0 ≤ r.1 ∧ Ev (fun k => laws_heldEngineResult.f k a b c e r.2.1 r.2.2 1) r.1 := by
  obtain ⟨s, hs, s0, s1, -, -, sh⟩ := markRowH m.length 0 m 1 (by omega) (by omega) h2 (fun j h _ => h4 _ (List.getElem_mem h)) (by omega) (by omega)
  have ht : Ev (fun k => laws_markTxnS.f k [] 1) (1, []) := by
    unfold laws_markTxnS.f
    refine evSucc ?_
    simp only [laws_markTxnS.l0]
    exact evIte (fun h => absurd h (by simp)) (fun _ => evRet rfl)
  have hh : Ev (fun k => laws_heldTxnS.f k [] 1) 1 := by
    unfold laws_heldTxnS.f
    refine evSucc ?_
    simp only [laws_heldTxnS.l0]
    exact evIte (fun h => absurd h (by simp)) (fun _ => evRet rfl)
  refine ⟨(s.1, [], s.2), ?_, s0, ?_⟩
  · unfold laws_markEngineResult.f laws_markEngine.f laws_markRowS.f
    exact evCall ht (evCall hs (evRet rfl))
  · unfold laws_heldEngineResult.f laws_heldEngine.f laws_heldRowS.f
    refine evCall (a := s.1) (evCall hh (evIte (fun h => absurd h (by omega)) (fun _ => evCall sh (evIte (fun h => absurd h (by omega)) (fun _ => evRet rfl))))) (evIte (fun h => absurd h (by omega)) (fun _ => evRet rfl))
def okC (c : S105) : Bool := decide (0 ≤ c.f0 ∧ c.f0 ≤ 31) && decide (0 ≤ c.f1 ∧ c.f1 ≤ 9999)
def cellF (l : List S105) (i : Nat) : Int := if okC (l.getD i z105) = true then (if 0 < i ∧ (l.getD i z105).f0 ≤ (l.getD (i - 1) z105).f0 then 1 else 0) else 3
def scanC (f : Nat → Int) : Nat → Nat → Int
  | 0, _ => 0
  | n + 1, i => if f i = 0 then scanC f n (i + 1) else f i
def rowsC (l : List S105) : List S87 := l.map fun c => ⟨c.f0, [⟨1, 1, false, c.f1⟩]⟩
theorem rowsC_step (l : List S105) (i : Nat) (h : i < l.length) : rowsC (l.take i) ++ [(⟨l[i].f0, [(⟨1, 1, false, l[i].f1⟩ : S90)]⟩ : S87)] = rowsC (l.take (i + 1)) := by
  unfold rowsC
  rw [List.take_succ_eq_append_getElem h, List.map_append]
  rfl
abbrev NE := Int × Int × Int × Int × List S83 × List S87
def badE (c : Int) : NE := (c, 0, 0, 0, [], [])
def okE (l : List S105) : NE := (0, 0, 2, if l.length = 0 then 0 else 1, [], rowsC l)
def newF (l : List S105) (d i : Nat) : NE := if scanC (cellF l) d i = 0 then okE l else badE (scanC (cellF l) d i)
theorem l6Bad_f (c : Int) : spec_l6Bad.f c = some (badE c) := rfl
theorem l1Key_e (a : Int) : spec_l1Key.f a = some (decide (0 ≤ a ∧ a ≤ 31)) := by unfold spec_l1Key.f; rw [specIn]; rfl
theorem l1Value_e (a : Int) : spec_l1Value.f a = some (decide (0 ≤ a ∧ a ≤ 9999)) := by unfold spec_l1Value.f; rw [specIn]; rfl
theorem isKey_e (a : Int) : impl_isKey.f a = some (decide (0 ≤ a ∧ a ≤ 31)) := by unfold impl_isKey.f; rw [implIn]; rfl
theorem isValue_e (a : Int) : impl_isValue.f a = some (decide (0 ≤ a ∧ a ≤ 9999)) := by unfold impl_isValue.f; rw [implIn]; rfl
theorem specNE_l (l : List S105) (hb : l.length ≤ 20) : ∀ (d i : Nat) (ck : Int), l.length - i = d → i ≤ l.length → (ck = if i = 0 then 0 else 1) → Ev (fun k => spec_NewEngine.l0 k l (i : Int) 2 ck (rowsC (l.take i))) (newF l d i) := by
  intro d
  induction d with
  | zero =>
    intro i ck hd hi hc
    refine evSucc ?_
    simp only [spec_NewEngine.l0]
    have hil : i = l.length := by omega
    subst hil
    refine evIte (fun h => absurd h (by omega)) (fun _ => evRet ?_)
    unfold newF scanC okE
    rw [if_pos rfl, List.take_length, hc]
  | succ d ih =>
    intro i ck hd hi hc
    have hlt : i < l.length := by omega
    have h1 : (i : Int) < (l.length : Int) := by omega
    have hlen : (rowsC (l.take i)).length < 4398046511104 := by unfold rowsC; simp; omega
    have hih := ih (i + 1) 1 (by omega) (by omega) (by simp)
    have hg : l.getD i z105 = l[i] := getD_at hlt _
    have hnew : newF l (d + 1) i = if cellF l i = 0 then newF l d (i + 1) else badE (cellF l i) := by
      unfold newF
      rw [scanC]
      by_cases hz : cellF l i = 0
      · rw [if_pos hz, if_pos hz]
      · rw [if_neg hz, if_neg hz, if_neg hz]
    have hgo : cellF l i = 0 → Ev (fun k => spec_NewEngine.l0 k l (wrap64 ((i : Int) + 1)) 2 1 (rowsC (l.take i) ++ [(⟨l[i].f0, [(⟨1, 1, false, l[i].f1⟩ : S90)]⟩ : S87)])) (newF l (d + 1) i) := by
      intro hz
      rw [hnew, if_pos hz, rowsC_step l i hlt, w64n (by omega)]
      exact hih
    have key : ∀ b : Bool, b = !(okC l[i]) → Ev (fun k => spec_NewEngine.j1 k l (i : Int) b 2 ck (rowsC (l.take i))) (newF l (d + 1) i) := by
      intro b hbq
      refine evSucc ?_
      simp only [spec_NewEngine.j1, rdCell hlt]
      cases hok : okC l[i] with
      | false =>
        rw [hok] at hbq
        subst hbq
        refine evIte (fun _ => evSeq (l6Bad_f 3) (evRet ?_)) (fun h => absurd rfl h)
        have hcf : cellF l i = 3 := by unfold cellF; rw [hg, hok]; rfl
        rw [hnew, hcf]
        rfl
      | true =>
        rw [hok] at hbq
        subst hbq
        refine evIte (fun h => absurd h (by decide)) (fun _ => ?_)
        refine evIte (fun hp => ?_) (fun hp => ?_)
        · have hw : wrap64 ((i : Int) - 1) = ((i - 1 : Nat) : Int) := by rw [w64 (by omega) (by omega)]; omega
          have hlt2 : i - 1 < l.length := by omega
          have hg2 : l.getD (i - 1) z105 = l[i - 1] := getD_at hlt2 _
          simp only [hw, rdCell hlt2]
          refine evIte (fun _ => ?_) (fun h => absurd h (by omega))
          refine evIte (fun _ => ?_) (fun h => absurd h1 h)
          refine evIte (fun _ => ?_) (fun h => absurd h (by omega))
          refine evIte (fun _ => ?_) (fun h => absurd h (by omega))
          refine evIte (fun hle => evSeq (l6Bad_f 1) (evRet ?_)) (fun hle => evIte (fun _ => hgo ?_) (fun h => absurd hlen h))
          · have hcf : cellF l i = 1 := by unfold cellF; rw [hg, hg2, hok, if_pos rfl, if_pos ⟨by omega, hle⟩]
            rw [hnew, hcf]
            rfl
          · unfold cellF; rw [hg, hg2, hok, if_pos rfl, if_neg (fun h => hle h.2)]
        · refine evIte (fun _ => ?_) (fun h => absurd h (by omega))
          refine evIte (fun _ => evIte (fun _ => hgo ?_) (fun h => absurd hlen h)) (fun h => absurd h1 h)
          unfold cellF; rw [hg, hok, if_pos rfl, if_neg (fun h => by have := h.1; omega)]
    refine evSucc ?_
    simp only [spec_NewEngine.l0, rdCell hlt, l1Key_e, l1Value_e, Option.bind_some]
    refine evIte (fun _ => evIte (fun _ => ?_) (fun h => absurd h (by omega))) (fun h => absurd h1 h)
    refine evIte (fun hk => key _ ?_) (fun hk => key _ ?_)
    · unfold okC; rw [hk]; simp
    · unfold okC; rw [Bool.eq_false_iff.2 hk]; rfl
theorem implCF_l2 (l : List S105) (hb : l.length ≤ 20) : ∀ (d i : Nat), l.length - i = d → i ≤ l.length → Ev (fun k => impl_cellsFault.l0 k l l (l.length : Int) (i : Int)) (scanC (cellF l) d i) := by
  intro d
  induction d with
  | zero =>
    intro i hd hi
    refine evSucc ?_
    simp only [impl_cellsFault.l0]
    exact evIte (fun h => absurd h (by omega)) (fun _ => evRet rfl)
  | succ d ih =>
    intro i hd hi
    have hlt : i < l.length := by omega
    have h1 : (i : Int) < (l.length : Int) := by omega
    have hih := ih (i + 1) (by omega) (by omega)
    have hg : l.getD i z105 = l[i] := getD_at hlt _
    have hgo : cellF l i = 0 → Ev (fun k => impl_cellsFault.l0 k l l (l.length : Int) (wrap64 ((i : Int) + 1))) (scanC (cellF l) (d + 1) i) := by
      intro hz
      rw [scanC, if_pos hz, w64n (by omega)]
      exact hih
    have key : ∀ b : Bool, b = !(okC l[i]) → Ev (fun k => impl_cellsFault.j1 k l (i : Int) l (l.length : Int) (i : Int) b l[i].f0 l[i].f1) (scanC (cellF l) (d + 1) i) := by
      intro b hbq
      refine evSucc ?_
      simp only [impl_cellsFault.j1]
      cases hok : okC l[i] with
      | false =>
        rw [hok] at hbq
        subst hbq
        refine evIte (fun _ => evRet ?_) (fun h => absurd rfl h)
        have hcf : cellF l i = 3 := by unfold cellF; rw [hg, hok]; rfl
        rw [scanC, hcf]
        rfl
      | true =>
        rw [hok] at hbq
        subst hbq
        refine evIte (fun h => absurd h (by decide)) (fun _ => ?_)
        refine evIte (fun hp => ?_) (fun hp => hgo ?_)
        · have hw : wrap64 ((i : Int) - 1) = ((i - 1 : Nat) : Int) := by rw [w64 (by omega) (by omega)]; omega
          have hlt2 : i - 1 < l.length := by omega
          have hg2 : l.getD (i - 1) z105 = l[i - 1] := getD_at hlt2 _
          simp only [hw, rdCell hlt2]
          refine evIte (fun _ => ?_) (fun h => absurd h (by omega))
          refine evIte (fun _ => ?_) (fun h => absurd h (by omega))
          refine evIte (fun hle => evRet ?_) (fun hle => hgo ?_)
          · have hcf : cellF l i = 1 := by unfold cellF; rw [hg, hg2, hok, if_pos rfl, if_pos ⟨by omega, hle⟩]
            rw [scanC, hcf]
            rfl
          · unfold cellF; rw [hg, hg2, hok, if_pos rfl, if_neg (fun h => hle h.2)]
        · unfold cellF; rw [hg, hok, if_pos rfl, if_neg (fun h => by have := h.1; omega)]
    refine evSucc ?_
    simp only [impl_cellsFault.l0, rdCell hlt, isKey_e, isValue_e, Option.bind_some]
    refine evIte (fun _ => evIte (fun _ => evIte (fun _ => ?_) (fun h => absurd h1 h)) (fun h => absurd h (by omega))) (fun h => absurd h1 h)
    refine evIte (fun hk => key _ ?_) (fun hk => key _ ?_)
    · unfold okC; rw [hk]; simp
    · unfold okC; rw [Bool.eq_false_iff.2 hk]; rfl
theorem implNE_l (l : List S105) (hb : l.length ≤ 20) : ∀ (d i : Nat) (ck : Int), l.length - i = d → i ≤ l.length → (ck = if i = 0 then 0 else 1) → Ev (fun k => impl_NewEngine.l0 k l (l.length : Int) (i : Int) 2 ck (rowsC (l.take i))) (okE l) := by
  intro d
  induction d with
  | zero =>
    intro i ck hd hi hc
    refine evSucc ?_
    simp only [impl_NewEngine.l0]
    have hil : i = l.length := by omega
    subst hil
    refine evIte (fun h => absurd h (by omega)) (fun _ => evRet ?_)
    unfold okE
    rw [List.take_length, hc]
  | succ d ih =>
    intro i ck hd hi hc
    have hlt : i < l.length := by omega
    have h1 : (i : Int) < (l.length : Int) := by omega
    have hlen : (rowsC (l.take i)).length < 4398046511104 := by unfold rowsC; simp; omega
    have hih := ih (i + 1) 1 (by omega) (by omega) (by simp)
    refine evSucc ?_
    simp only [impl_NewEngine.l0, rdCell hlt, w64n (show i < 9223372036854775807 by omega), rowsC_step l i hlt]
    exact evIte (fun _ => evIte (fun _ => evIte (fun _ => evIte (fun _ => hih) (fun h => absurd hlen h)) (fun h => absurd h1 h)) (fun h => absurd h (by omega))) (fun h => absurd h1 h)
def newE (l : List S105) : NE := if 20 < l.length then badE 2 else newF l l.length 0
theorem specNE (l : List S105) (hb : l.length ≤ 1048576) : Ev (fun k => spec_NewEngine.f k l) (newE l) := by
  unfold spec_NewEngine.f newE
  refine evIte (fun h => evSeq (l6Bad_f 2) (evRet ?_)) (fun h => ?_)
  · rw [if_pos (by omega)]
  · rw [if_neg (by omega)]
    have := specNE_l l (by omega) l.length 0 0 (by omega) (by omega) rfl
    simpa [rowsC] using this
theorem implNE (l : List S105) (hb : l.length ≤ 1048576) : Ev (fun k => impl_NewEngine.f k l) (newE l) := by
  unfold impl_NewEngine.f newE
  refine evIte (fun h => evRet ?_) (fun h => ?_)
  · rw [if_pos (by omega)]; rfl
  · rw [if_neg (by omega)]
    have h1 := implCF_l2 l (by omega) l.length 0 (by omega) (by omega)
    have h2 := implNE_l l (by omega) l.length 0 0 (by omega) (by omega) rfl
    unfold impl_cellsFault.f
    refine evCall h1 (evIte (fun hz => ?_) (fun hz => evRet ?_))
    · unfold newF; rw [if_pos hz]
      simpa [rowsC] using h2
    · unfold newF; rw [if_neg hz]; rfl
theorem newE_shape (l : List S105) : (newE l).2.2.2.2.1 = [] ∧ (newE l).2.2.2.2.2.length ≤ 20 ∧ ∀ x ∈ (newE l).2.2.2.2.2, x.f1.length ≤ 1 := by
  unfold newE
  by_cases h : 20 < l.length
  · rw [if_pos h]; simp [badE]
  · rw [if_neg h]
    unfold newF
    by_cases hz : scanC (cellF l) l.length 0 = 0
    · rw [if_pos hz]
      refine ⟨rfl, ?_, ?_⟩
      · show (rowsC l).length ≤ 20
        unfold rowsC
        rw [List.length_map]; omega
      · intro x hx
        simp only [okE, rowsC, List.mem_map] at hx
        obtain ⟨c, -, rfl⟩ := hx
        simp
    · rw [if_neg hz]; simp [badE]
end Go.Proofs.Ytonbnmaelepcbaa.Q
