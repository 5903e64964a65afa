/- The pure statement of the law FnTails: behind a crash all records that were sure are there, and of the others the first ones. -/
import Derived.Test.YthagppmaofcllaaUFnTails
import Derived.Test.YthagppmaofcllaaQall
import Derived.Test.YthagppmaofcllaaP0
import Derived.Test.YthagppmaofcllaaPDm1
namespace Go.Proofs.Ythagppmaofcllaa.Pure
open Go.RowKit Go.Proofs.Ythagppmaofcllaa.P Go.Proofs.Ythagppmaofcllaa.Q Go.Proofs.YthagppmaofcllaaW.PrintWords Go.Proofs.YthagppmaofcllaaW.PrintLast Go.Proofs.YthagppmaofcllaaW.PrintMore Go.Proofs.Ythagppmaofcllaa.Lb
set_option linter.unusedVariables false
set_option linter.unusedSimpArgs false
theorem lgf_nil {x : List Int} (h1 : x.length ≤ 4000) (h2 : 13 * (recsA x).length = x.length) : lgf x [] = 0 := by
  unfold lgf
  have e : (x ++ ([] : List Int)) = x := List.append_nil x
  rw [e]
  have h3 : ¬ x.length + ([] : List Int).length > 4000 := by rw [List.length_nil]; omega
  rw [if_neg h3, if_pos h2]
theorem FnTails : ZlFnTails.Pure := by
  intro s h0
  refine Ev.rounds ?_
  unfold ZlFnTails.f
  refine evSeq (a := decide ((s.length : Int) > 1048576)) rfl (evIte (fun _ => evRet rfl) (fun hbig => ?_))
  have hsl : s.length ≤ 1048576 := by
    simp at hbig
    omega
  obtain ⟨a, b, q, hD, ha, hb, hl⟩ := drawCrash s (fun x hx => wf8 (h0.2.2 x hx)) hsl
  have hl2 : a.length + b.length ≤ 1048576 := by omega
  refine evCall hD (evCall (implCra a b q ha hb hl2) ?_)
  have S := specCra a b q ha hb hl2
  by_cases c0 : lgf a b = 0
  rotate_left
  · have e : cra a b q = (lgf a b, 0, [], []) := by rw [cra, if_neg c0]
    rw [e] at S ⊢
    exact evIte (fun h => absurd h c0) (fun _ => evCall S (evRet (by simp)))
  by_cases c1 : 0 ≤ q ∧ q ≤ (b.length : Int)
  rotate_left
  · have e : cra a b q = (3, 0, [], []) := by rw [cra, if_pos c0, if_neg c1]
    rw [e] at S ⊢
    exact evIte (fun h => absurd h (by decide)) (fun _ => evCall S (evRet (by simp)))
  obtain ⟨hq, hall⟩ := lgf_0 c0
  obtain ⟨m, rfl⟩ : ∃ m : Nat, q = (m : Int) := ⟨q.toNat, by omega⟩
  have hm : m ≤ b.length := by omega
  have hX : ∃ D, D = a ++ b.take m := ⟨_, rfl⟩
  obtain ⟨D, hDd⟩ := hX
  have hDl : D.length ≤ 4000 := by rw [hDd, List.length_append, List.length_take]; omega
  have hBD : isB D := by rw [hDd]; exact isB_append ha (isB_take _ hb)
  have hrD := recsA_len D
  have ex : craD a b (m : Int) = D.take (13 * (recsA D).length) := by unfold craD; rw [Int.toNat_natCast, ← hDd]
  have hxl : (D.take (13 * (recsA D).length)).length = 13 * (recsA D).length := by rw [List.length_take]; omega
  have en : wrap64 (Int.tdiv (wrap64 (((D.take (13 * (recsA D).length)).length : Int) + (([] : List Int).length : Int))) 13) = ((recsA D).length : Int) := by
    rw [hxl, List.length_nil, w64 (x := ((13 * (recsA D).length : Nat) : Int) + ((0 : Nat) : Int)) (by omega) (by omega)]
    rw [show ((13 * (recsA D).length : Nat) : Int) + ((0 : Nat) : Int) = 13 * ((recsA D).length : Int) by omega, Int.mul_tdiv_cancel_left _ (by decide), w64 (by omega) (by omega)]
  have ec : cra a b (m : Int) = (0, ((recsA D).length : Int), D.take (13 * (recsA D).length), []) := by rw [cra, if_pos c0, if_pos c1, ex, en]
  rw [ec]
  have ecut := recsA_cut D
  generalize hx : D.take (13 * (recsA D).length) = x at hxl ecut
  have hBx : isB x := by rw [← hx]; exact isB_take _ hBD
  clear en ec ex
  have hx4 : x.length ≤ 4000 := by rw [hxl]; omega
  have hx13 : 13 * (recsA x).length = x.length := by rw [ecut, hxl]
  have hlx : lgf x [] = 0 := lgf_nil hx4 hx13
  have r1 : rof a b = (0, 13 * ((recsA (a ++ b)).length : Int), recsA (a ++ b)) := by rw [rof, if_pos c0, unr, if_neg (by rw [List.length_append]; omega)]
  have r2 : rof x [] = (0, 13 * ((recsA D).length : Int), recsA D) := by rw [rof, if_pos hlx, List.append_nil, unr, if_neg (by omega), ecut]
  have r3 : unr a = (0, 13 * ((recsA a).length : Int), recsA a) := by rw [unr, if_neg (by omega)]
  have I1 := implRof a b ha hb hl2
  have I2 := implRof x [] hBx (fun z hz => by simp at hz) (by simp; omega)
  have I3 := implUnr a ha (by omega)
  have S1 := specRof a b ha hb hl2
  rw [r1] at I1 S1
  rw [r2] at I2
  rw [r3] at I3
  have p1 : recsA a <+: recsA D := by rw [hDd]; exact recsA_pre a _
  have p2 : recsA D <+: recsA (a ++ b) := by
    have e : a ++ b = D ++ b.drop m := by rw [hDd, List.append_assoc, List.take_append_drop]
    rw [e]; exact recsA_pre D _
  have l1 := p1.length_le
  have l2 := p2.length_le
  have hrA := recsA_len (a ++ b)
  rw [List.length_append] at hrA
  have hlast : ¬ ((m : Int) < (b.length : Int)) → recsA D = recsA (a ++ b) := by
    intro h
    rw [hDd, List.take_of_length_le (by omega)]
  refine evIte (fun _ => ?_) (fun h => absurd rfl h)
  refine evCall I1 (evCall I2 (evCall I3 (evIte (fun _ => evIte (fun _ => evIte (fun h => absurd h (by simp only; omega)) (fun _ => evIte (fun h => absurd h (by simp only; omega)) (fun _ => ?_))) (fun h => absurd rfl h)) (fun h => absurd rfl h))))
  refine evSucc ?_
  simp only [ZlFnTails.j0]
  refine evIte (fun h => absurd h (by decide)) (fun _ => ?_)
  generalize recsA D = W at p1 p2 l1 l2 hlast
  generalize recsA (a ++ b) = A at S1 p2 l2 hlast hrA
  have fin : Ev (fun k => (ZsRecsOf.f k a b).bind fun bt => (some ((A.length : Int) == (bt.2.2.length : Int)))) true := evCall S1 (evRet (by simp))
  have loop : ∀ (d i : Nat), i + d = W.length → Ev (fun k => ZlFnTails.l0 k (m : Int) A (i : Int) a b 0 (13 * (W.length : Int)) W) true := by
    intro d
    induction d with
    | zero =>
      intro i hi
      refine evSucc ?_
      simp only [ZlFnTails.l0]
      refine evIte (fun h => absurd h (by omega)) (fun _ => evIte (fun _ => fin) (fun h => evIte (fun _ => fin) (fun h2 => absurd (by rw [hlast h]) h2)))
    | succ d ih =>
      intro i hi
      have hi1 : i < W.length := by omega
      have hi2 : i < A.length := by omega
      have er : A[i] = W[i] := (p2.getElem hi1).symm
      refine evSucc ?_
      simp only [ZlFnTails.l0, rdRec hi1, rdRec hi2, er, beq_self_eq_true, Bool.not_true, Bool.or_false, w64n (show i < 9223372036854775807 by omega)]
      exact evIte (fun _ => evIte (fun _ => evIte (fun _ => evIte (fun h => absurd h (by decide)) (fun _ => ih (i + 1) (by omega))) (fun h => absurd (by omega) h)) (fun h => absurd (by omega) h)) (fun h => absurd (by omega) h)
  exact loop W.length 0 (by omega)
end Go.Proofs.Ythagppmaofcllaa.Pure
