/- The pure statement of CrashLog's exact law. -/
import Derived.Test.YthagppmaofcllaaUFnExactCrashLog
import Derived.Test.YthagppmaofcllaaQlr
import Derived.Test.YthagppmaofcllaaLb
import Derived.Test.YthagppmaofcllaaQf
import Derived.Test.YthagppmaofcllaaQr
import Derived.Test.YthagppmaofcllaaQna
import Derived.Test.YthagppmaofcllaaQrb
import Derived.Test.YthagppmaofcllaaQlg
import Derived.Test.YthagppmaofcllaaP0
import Derived.Test.YthagppmaofcllaaPDm1
namespace Go.Proofs.Ythagppmaofcllaa.Q
open Go.RowKit Go.Proofs.Ythagppmaofcllaa.P Go.Proofs.YthagppmaofcllaaW.PrintWords Go.Proofs.YthagppmaofcllaaW.PrintLast Go.Proofs.YthagppmaofcllaaW.PrintMore Go.Proofs.Ythagppmaofcllaa.Lb
set_option linter.unusedVariables false
set_option linter.unusedSimpArgs false
def craD (a b : List Int) (q : Int) : List Int := (a ++ b.take q.toNat).take (13 * (recsA (a ++ b.take q.toNat)).length)
def cra (a b : List Int) (q : Int) : Int × Int × List Int × List Int :=
  if lgf a b = 0 then (if 0 ≤ q ∧ q ≤ (b.length : Int) then (0, wrap64 (Int.tdiv (wrap64 (((craD a b q).length : Int) + (([] : List Int).length : Int))) 13), craD a b q, []) else (3, 0, [], [])) else (lgf a b, 0, [], [])
theorem craD_len (a b : List Int) (q : Int) : (craD a b q).length ≤ a.length + b.length := by
  unfold craD
  simp only [List.length_take, List.length_append]
  omega
theorem cra_len (a b : List Int) (q : Int) (h : a.length + b.length ≤ 1048576) : (cra a b q).2.2.1.length + (cra a b q).2.2.2.length ≤ 1048576 := by
  have := craD_len a b q
  unfold cra
  split
  · split
    · simp only [List.length_nil]; omega
    · simp
  · simp
theorem specCra (a b : List Int) (q : Int) (ha : isB a) (hb : isB b) (h : a.length + b.length ≤ 1048576) : Ev (fun k => ZsCrashLog.f k a b q) (cra a b q) := by
  unfold ZsCrashLog.f cra
  refine evCall (specLogF a b ha hb h) (evIte (fun h0 => ?_) (fun h0 => evRet (by rw [if_neg h0])))
  rw [if_pos h0]
  refine evSeq (specIn q 0 _) (evIte (fun h1 => ?_) (fun h1 => evRet (by rw [if_neg (fun h2 => h1 (decide_eq_true h2))])))
  have h1' := of_decide_eq_true h1
  rw [if_pos h1']
  obtain ⟨m, rfl⟩ : ∃ m : Nat, q = (m : Int) := ⟨q.toNat, by omega⟩
  have hm : m ≤ b.length := by omega
  have hl2 : (b.take m).length ≤ b.length := by rw [List.length_take]; omega
  have hB2 : isB (a ++ b.take m) := isB_append ha (isB_take _ hb)
  have hL : (a ++ b.take m).length ≤ 1048576 := by rw [List.length_append]; omega
  have hr := recsA_len (a ++ b.take m)
  have e1 : (13 * ((recsA (a ++ b.take m)).length : Int)).toNat = 13 * (recsA (a ++ b.take m)).length := by omega
  have C : Ev (fun k => Zsl3Crash.f k a b (m : Int)) (craD a b (m : Int), []) := by
    unfold Zsl3Crash.f craD
    simp only [Option.bind_some, List.nil_append, Int.toNat_natCast, List.length_nil]
    refine evIte (fun _ => evIte (fun _ => evIte (fun _ => evIte (fun _ => ?_) (fun h => absurd (by omega) h)) (fun h => absurd (by omega) h)) (fun h => absurd (by omega) h)) (fun h => absurd (by omega) h)
    refine evCall (specRecs _ hB2 hL) ?_
    simp only [e1]
    refine evIte (fun _ => evIte (fun _ => evIte (fun _ => evRet rfl) (fun h => absurd (by rw [List.length_take]; omega) h)) (fun h => absurd (by omega) h)) (fun h => absurd (by omega) h)
  exact evCall C (evSeq (a := wrap64 (Int.tdiv (wrap64 (((craD a b (m : Int)).length : Int) + (([] : List Int).length : Int))) 13)) rfl (evRet rfl))
theorem implCra (a b : List Int) (q : Int) (ha : isB a) (hb : isB b) (h : a.length + b.length ≤ 1048576) : Ev (fun k => ZiCrashLog.f k a b q) (cra a b q) := by
  have E3 : ∀ c : Int, c ≠ 0 → Ev (fun k => ZiCrashLog.j1 k q c a b) (c, 0, [], []) := by
    intro c hc
    refine evSucc ?_
    simp only [ZiCrashLog.j1]
    exact evIte (fun h => absurd h hc) (fun _ => evRet rfl)
  unfold ZiCrashLog.f cra
  refine evCall (implLogF a b ha hb h) (evIte (fun h0 => ?_) (fun h0 => ?_))
  rotate_left
  · rw [if_neg h0]
    refine evSucc ?_
    simp only [ZiCrashLog.j0]
    exact evIte (fun h => absurd h (by decide)) (fun _ => E3 _ h0)
  rw [if_pos h0]
  refine evSeq (implIn q 0 _) (evSucc ?_)
  simp only [ZiCrashLog.j0]
  refine evIte (fun h1 => ?_) (fun h1 => ?_)
  · have h1' : ¬ (0 ≤ q ∧ q ≤ (b.length : Int)) := fun h2 => by rw [decide_eq_true h2] at h1; exact absurd h1 (by decide)
    rw [if_neg h1']
    exact E3 3 (by decide)
  have h1' : 0 ≤ q ∧ q ≤ (b.length : Int) := Classical.byContradiction fun h2 => h1 (by rw [decide_eq_false h2]; rfl)
  rw [if_pos h1', h0]
  obtain ⟨m, rfl⟩ : ∃ m : Nat, q = (m : Int) := ⟨q.toNat, by omega⟩
  have hm : m ≤ b.length := by omega
  have hl2 : (b.take m).length ≤ b.length := by rw [List.length_take]; omega
  have hB2 : isB (a ++ b.take m) := isB_append ha (isB_take _ hb)
  have hL : (a ++ b.take m).length ≤ 1048576 := by rw [List.length_append]; omega
  have hr := recsA_len (a ++ b.take m)
  refine evSucc ?_
  simp only [ZiCrashLog.j1, if_true, Int.toNat_natCast]
  refine evIte (fun _ => evIte (fun _ => ?_) (fun h => absurd (by omega) h)) (fun h => absurd (by omega) h)
  refine evCall (implConcat a (b.take m) (by omega)) (evCall (implRecs _ hB2 hL) ?_)
  have e0 : wrap64 (13 * ((recsA (a ++ b.take m)).length : Int)) = ((13 * (recsA (a ++ b.take m)).length : Nat) : Int) := by rw [w64 (by omega) (by omega)]; omega
  simp only [e0, Int.toNat_natCast, Option.bind_some]
  refine evIte (fun _ => evIte (fun _ => ?_) (fun h => absurd (by omega) h)) (fun h => absurd (by omega) h)
  exact evSeq (a := wrap64 (Int.tdiv (wrap64 (((craD a b (m : Int)).length : Int) + (([] : List Int).length : Int))) 13)) rfl (evRet rfl)
end Go.Proofs.Ythagppmaofcllaa.Q
namespace Go.Proofs.Ythagppmaofcllaa.Pure
open Go.RowKit Go.Proofs.Ythagppmaofcllaa.P Go.Proofs.Ythagppmaofcllaa.Q Go.Proofs.YthagppmaofcllaaW.PrintWords Go.Proofs.YthagppmaofcllaaW.PrintLast Go.Proofs.YthagppmaofcllaaW.PrintMore Go.Proofs.Ythagppmaofcllaa.Lb
theorem FnExactCrashLog : ZlFnExactCrashLog.Pure := by
  intro a b q h0 h1 _
  refine Ev.rounds ?_
  unfold ZlFnExactCrashLog.f
  have hA : isB a := fun x hx => wf8 (h0.2.2 x hx)
  have hB : isB b := fun x hx => wf8 (h1.2.2 x hx)
  obtain ⟨t, ht, hs⟩ := szLog a b (by have := h0.2.1; unfold maxLen at this; omega) (by have := h1.2.1; unfold maxLen at this; omega)
  refine evSeq ht (evIte (fun _ => evRet rfl) (fun h => ?_))
  have hl := hs h
  have S := specCra a b q hA hB hl
  have I := implCra a b q hA hB hl
  have hR := cra_len a b q hl
  generalize cra a b q = r at S I hR
  obtain ⟨c, n, x, y⟩ := r
  simp only at hR
  refine evCall (toLog a b hl) (evCall S (evCall (toLog a b hl) (evCall I ?_)))
  refine evCall (eqLogResult c n x y hR) (evIte (fun _ => ?_) (fun h => absurd rfl h))
  refine evCall (toLog a b hl) (evCall (eqLog a b hl) (evIte (fun _ => ?_) (fun h => absurd rfl h)))
  refine evCall (markLog a b hl) (evIte (fun h => absurd h (by omega)) (fun _ => ?_))
  refine evCall (eqLogResult c n x y hR) (evSucc ?_)
  simp only [ZlFnExactCrashLog.j0]
  refine evIte (fun h => absurd h (by decide)) (fun _ => ?_)
  refine evCall (markLogResult c n x y hR) (evCall (heldLogResult c n x.length y.length hR) (evIte (fun h => absurd h (by omega)) (fun _ => evIte (fun _ => ?_) (fun h => absurd rfl h))))
  refine evCall (toLog a b hl) (evCall I (evCall (eqLogResult c n x y hR) (evIte (fun _ => ?_) (fun h => absurd rfl h))))
  exact evCall (heldLogResult c n x.length y.length hR) (evIte (fun h => absurd h (by omega)) (fun _ => evIte (fun _ => evRet rfl) (fun h => absurd rfl h)))
end Go.Proofs.Ythagppmaofcllaa.Pure
