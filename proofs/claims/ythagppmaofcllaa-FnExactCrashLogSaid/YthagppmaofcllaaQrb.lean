/- Records out of bytes: what both sides come to. -/
import Derived.Test.YthagppmaofcllaaLb
import Derived.Test.YthagppmaofcllaaQf
import Derived.Test.YthagppmaofcllaaQsum
import Derived.Test.YthagppmaofcllaaQr
import Derived.Test.YthagppmaofcllaaQk
import Derived.Test.YthagppmaofcllaaQm
import Derived.Test.YthagppmaofcllaaQna
import Derived.Test.YthagppmaofcllaaP0
import Derived.Test.YthagppmaofcllaaPDadefgh0
namespace Go.Proofs.Ythagppmaofcllaa.Q
open Go.RowKit Go.Proofs.Ythagppmaofcllaa.P Go.Proofs.YthagppmaofcllaaW.PrintWords Go.Proofs.YthagppmaofcllaaW.PrintLast Go.Proofs.YthagppmaofcllaaW.PrintMore Go.Proofs.Ythagppmaofcllaa.Lb
set_option linter.unusedVariables false
set_option linter.unusedSimpArgs false
def recU (d : List Int) : S48 := ⟨takeL (d.take 1), takeL ((d.drop 1).take 2), takeL ((d.drop 3).take 1), (Int.tmod (rd d 4) 2) == 1, takeL ((d.drop 5).take 2), (((Int.tdiv (rd d 4) 2) % 256) % 2) == 1, takeL ((d.drop 7).take 2), takeL ((d.drop 9).take 2)⟩
def rfU (r : S48) : Int := rf r.f0 r.f1 r.f2 r.f3 r.f4 r.f5 r.f6 r.f7
def packU (r : S48) : List Int := packR r.f0 r.f1 r.f2 r.f3 r.f4 r.f5 r.f6 r.f7
def recsU : Nat → List Int → List S48
  | 0, _ => []
  | n + 1, l => if 13 ≤ l.length then (if rfU (recU (l.take 13)) = 0 then (if packU (recU (l.take 13)) = l.take 13 then recU (l.take 13) :: recsU n (l.drop 13) else []) else []) else []
theorem recsU_len : ∀ (n : Nat) (l : List Int), 13 * (recsU n l).length ≤ l.length
  | 0, l => by simp [recsU]
  | n + 1, l => by
    unfold recsU
    split
    · split
      · split
        · have := recsU_len n (l.drop 13)
          rw [List.length_drop] at this
          simp only [List.length_cons]
          omega
        · simp
      · simp
    · simp
theorem isB_packU (r : S48) : isB (packU r) := by
  unfold packU packR bodyR
  exact isB_append (isB_append (isB_append (isB_append (isB_append (isB_append (isB_append (isB_bytesN _ _) (isB_bytesN _ _)) (isB_bytesN _ _)) (isB_bytesN _ _)) (isB_bytesN _ _)) (isB_bytesN _ _)) (isB_bytesN _ _)) (isB_bytesN _ _)
theorem take1_ {l : List Int} {i : Nat} (h : i < l.length) : takeL ((l.drop i).take 1) = l[i] := by
  have e : (l.drop i).take 1 = [l[i]] := by rw [List.drop_eq_getElem_cons h]; rfl
  rw [e]
  simp [takeL, takeStep]
set_option maxRecDepth 100000 in
theorem bit1 : ∀ n : Nat, n < 256 → ((Go.bits .and .u8 (n : Int) 1) == 1) = ((Int.tmod (n : Int) 2) == 1) := by
  intro n hn
  revert n
  decide
set_option maxRecDepth 100000 in
theorem bit2 : ∀ n : Nat, n < 256 → ((Go.bits .and .u8 (n : Int) 2) == 2) = ((((Int.tdiv (n : Int) 2) % 256) % 2) == 1) := by
  intro n hn
  revert n
  decide
theorem specRecs_l (x0 : List Int) (hB : isB x0) (hb : x0.length ≤ 1048576) : ∀ (n i : Nat) (acc : List S48), acc.length ≤ i → i ≤ x0.length → x0.length < i + 13 * n → Ev (fun k => Zsl3Recs.l0 k x0 acc (i : Int)) (acc ++ recsU n (x0.drop i), (i : Int) + 13 * (recsU n (x0.drop i)).length)
  | 0, i, acc, ha, hi, hn => absurd hn (by omega)
  | n + 1, i, acc, ha, hi, hn => by
    refine evSucc ?_
    have ew : wrap64 ((i : Int) + 13) = ((i + 13 : Nat) : Int) := by rw [w64 (by omega) (by omega)]; omega
    simp only [Zsl3Recs.l0, ew, Int.toNat_natCast]
    refine evIte (fun h13 => ?_) (fun h13 => ?_)
    rotate_left
    · have hn13 : ¬ 13 ≤ (x0.drop i).length := (by rw [List.length_drop]; omega)
      have e0 : recsU (n + 1) (x0.drop i) = [] := by rw [recsU, if_neg hn13]
      refine evRet ?_
      rw [e0]
      simp
    have hle : i + 13 ≤ x0.length := by omega
    have hL : 13 ≤ (x0.drop i).length := by rw [List.length_drop]; omega
    have ed : (x0.take (i + 13)).drop i = (x0.drop i).take 13 := by rw [List.drop_take]; congr 1; omega
    have e2 : x0.drop (i + 13) = (x0.drop i).drop 13 := by rw [List.drop_drop]
    rw [ed]
    unfold recsU
    simp only [if_pos hL]
    have hrec := fun a => specRecs_l x0 hB hb n (i + 13) a
    rw [e2] at hrec
    generalize recsU n ((x0.drop i).drop 13) = R at hrec ⊢
    have hBd : isB ((x0.drop i).take 13) := isB_take _ (isB_drop _ hB)
    have hdl : ((x0.drop i).take 13).length = 13 := by rw [List.length_take]; omega
    generalize (x0.drop i).take 13 = d at hBd hdl ⊢
    refine evIte (fun _ => evIte (fun _ => evIte (fun _ => ?_) (fun h => absurd (by omega) h)) (fun h => absurd (by omega) h)) (fun h => absurd (by omega) h)
    refine evCall (specTake d 1 2 hBd (by omega) (by omega) (by omega)) (evIte (fun _ => evIte (fun _ => ?_) (fun h => absurd (by omega) h)) (fun h => absurd (by omega) h))
    refine evCall (specTake d 5 2 hBd (by omega) (by omega) (by omega)) (evCall (specTake d 7 2 hBd (by omega) (by omega) (by omega)) (evCall (specTake d 9 2 hBd (by omega) (by omega) (by omega)) ?_))
    have g0 : wrap64 (rd d 0) = takeL (d.take 1) := by
      have h := take1_ (l := d) (i := 0) (by omega)
      rw [List.drop_zero] at h
      have hx := hBd d[0] (List.getElem_mem _)
      rw [h, show rd d 0 = d[0] from rdI (i := 0) (by omega), w64 (by omega) (by omega)]
    have g3 : wrap64 (rd d 3) = takeL ((d.drop 3).take 1) := by
      have hx := hBd d[3] (List.getElem_mem _)
      rw [take1_ (l := d) (i := 3) (by omega), show rd d 3 = d[3] from rdI (i := 3) (by omega), w64 (by omega) (by omega)]
    rw [g0, g3]
    have er : recU d = ⟨takeL (d.take 1), takeL ((d.drop 1).take 2), takeL ((d.drop 3).take 1), (Int.tmod (rd d 4) 2) == 1, takeL ((d.drop 5).take 2), (((Int.tdiv (rd d 4) 2) % 256) % 2) == 1, takeL ((d.drop 7).take 2), takeL ((d.drop 9).take 2)⟩ := rfl
    rw [← er]
    refine evCall (specRF _ _ _ _ _ _ _ _) (evIte (fun h0 => ?_) (fun h0 => evRet (by have h0' : ¬ rfU (recU d) = 0 := h0; simp [h0'])))
    have h0' : rfU (recU d) = 0 := h0
    simp only [if_pos h0']
    refine evCall (specPackR _ _ _ _ _ _ _ _) ?_
    have ep : packR (takeL (d.take 1)) (takeL ((d.drop 1).take 2)) (takeL ((d.drop 3).take 1)) ((Int.tmod (rd d 4) 2) == 1) (takeL ((d.drop 5).take 2)) ((((Int.tdiv (rd d 4) 2) % 256) % 2) == 1) (takeL ((d.drop 7).take 2)) (takeL ((d.drop 9).take 2)) = packU (recU d) := rfl
    rw [ep]
    refine evIte (fun h1 => ?_) (fun h1 => ?_)
    · have h1' : packU (recU d) = d := (strOf_inj (isB_packU _) hBd).1 h1
      simp only [if_pos h1']
      refine evIte (fun _ => ?_) (fun h => absurd (by omega) h)
      refine evEq (hrec (acc ++ [recU d]) (by simp; omega) hle (by omega)) ?_
      simp
      omega
    · have h1' : ¬ packU (recU d) = d := fun e => h1 ((strOf_inj (isB_packU _) hBd).2 e)
      exact evRet (by simp [h1'])
theorem implRecs_l : ∀ (n : Nat) (l : List Int) (acc : List S48), isB l → acc.length + l.length ≤ 1048576 → l.length < 13 * n → Ev (fun k => Ziunpack.l0 k l acc) (acc ++ recsU n l)
  | 0, l, acc, hB, hb, hn => absurd hn (by omega)
  | n + 1, l, acc, hB, hb, hn => by
    refine evSucc ?_
    simp only [Ziunpack.l0, Option.bind_some]
    refine evIte (fun h13 => ?_) (fun h13 => evRet (by have : ¬ 13 ≤ l.length := (by omega); simp [recsU, this]))
    have hL : 13 ≤ l.length := by omega
    refine evIte (fun _ => ?_) (fun h => absurd (by omega) h)
    unfold recsU
    simp only [if_pos hL]
    have hrec := fun a hb2 => implRecs_l n (l.drop 13) a (isB_drop _ hB) hb2 (by rw [List.length_drop]; omega)
    rw [List.length_drop] at hrec
    generalize recsU n (l.drop 13) = R at hrec ⊢
    have hBd : isB (l.take 13) := isB_take _ hB
    have hdl : (l.take 13).length = 13 := by rw [List.length_take]; omega
    generalize l.take 13 = d at hBd hdl ⊢
    have t1 : ∀ a b : Nat, isB ((d.take b).drop a) := fun a b => isB_drop _ (isB_take _ hBd)
    have t2 : ∀ a b : Nat, (d.take b).drop a = (d.drop a).take (b - a) := fun a b => List.drop_take
    have t3 : ∀ a b : Nat, ((d.take b).drop a).length ≤ b - a := fun a b => by rw [List.length_drop, List.length_take]; omega
    refine evIte (fun _ => ?_) (fun h => absurd (by omega) h)
    refine evCall (implTake (d.take 1) (isB_take _ hBd) (by rw [List.length_take]; omega)) (evIte (fun _ => ?_) (fun h => absurd (by omega) h))
    refine evCall (implTake _ (t1 1 3) (Nat.le_trans (t3 1 3) (by omega))) (evIte (fun _ => ?_) (fun h => absurd (by omega) h))
    refine evCall (implTake _ (t1 3 4) (Nat.le_trans (t3 3 4) (by omega))) (evIte (fun _ => evIte (fun _ => ?_) (fun h => absurd (by omega) h)) (fun h => absurd (by omega) h))
    refine evCall (implTake _ (t1 5 7) (Nat.le_trans (t3 5 7) (by omega))) (evIte (fun _ => ?_) (fun h => absurd (by omega) h))
    refine evCall (implTake _ (t1 7 9) (Nat.le_trans (t3 7 9) (by omega))) (evIte (fun _ => ?_) (fun h => absurd (by omega) h))
    refine evCall (implTake _ (t1 9 11) (Nat.le_trans (t3 9 11) (by omega))) ?_
    have hx := hBd d[4] (List.getElem_mem _)
    obtain ⟨m, hm⟩ : ∃ m : Nat, rd d 4 = (m : Int) := ⟨(rd d 4).toNat, by rw [show rd d 4 = d[4] from rdI (i := 4) (by omega)]; omega⟩
    have hm2 : m < 256 := by rw [show rd d 4 = d[4] from rdI (i := 4) (by omega)] at hm; omega
    have b1 : ((Go.bits .and .u8 (rd d 4) 1) == 1) = ((Int.tmod (rd d 4) 2) == 1) := by rw [hm]; exact bit1 m hm2
    have b2 : ((Go.bits .and .u8 (rd d 4) 2) == 2) = ((((Int.tdiv (rd d 4) 2) % 256) % 2) == 1) := by rw [hm]; exact bit2 m hm2
    simp only [t2, b1, b2]
    have er : recU d = ⟨takeL (d.take 1), takeL ((d.drop 1).take 2), takeL ((d.drop 3).take 1), (Int.tmod (rd d 4) 2) == 1, takeL ((d.drop 5).take 2), (((Int.tdiv (rd d 4) 2) % 256) % 2) == 1, takeL ((d.drop 7).take 2), takeL ((d.drop 9).take 2)⟩ := rfl
    simp only [show (3 : Nat) - 1 = 2 from rfl, show (4 : Nat) - 3 = 1 from rfl, show (7 : Nat) - 5 = 2 from rfl, show (9 : Nat) - 7 = 2 from rfl, show (11 : Nat) - 9 = 2 from rfl]
    rw [← er]
    refine evCall (implRF _ _ _ _ _ _ _ _) (evIte (fun h0 => ?_) (fun h0 => evRet (by have h0' : ¬ rfU (recU d) = 0 := h0; simp [h0'])))
    have h0' : rfU (recU d) = 0 := h0
    simp only [if_pos h0']
    refine evCall (implPackR _ _ _ _ _ _ _ _) ?_
    have ep : packR (takeL (d.take 1)) (takeL ((d.drop 1).take 2)) (takeL ((d.drop 3).take 1)) ((Int.tmod (rd d 4) 2) == 1) (takeL ((d.drop 5).take 2)) ((((Int.tdiv (rd d 4) 2) % 256) % 2) == 1) (takeL ((d.drop 7).take 2)) (takeL ((d.drop 9).take 2)) = packU (recU d) := rfl
    rw [ep]
    refine evCall (sEq _ d (by unfold packU; rw [packR_len]; omega)) ?_
    refine evIte (fun h1 => ?_) (fun h1 => ?_)
    · have h1' : packU (recU d) = d := of_decide_eq_true h1
      simp only [if_pos h1']
      refine evIte (fun _ => ?_) (fun h => absurd (by omega) h)
      refine evEq (hrec (acc ++ [recU d]) (by simp; omega)) ?_
      simp
    · have h1' : ¬ packU (recU d) = d := fun e => h1 (decide_eq_true e)
      exact evRet (by simp [h1'])
def recsA (l : List Int) : List S48 := recsU (l.length + 1) l
theorem recsA_len (l : List Int) : 13 * (recsA l).length ≤ l.length := recsU_len _ _
theorem specRecs (l : List Int) (hB : isB l) (hb : l.length ≤ 1048576) : Ev (fun k => Zsl3Recs.f k l) (recsA l, 13 * ((recsA l).length : Int)) := by
  have h := specRecs_l l hB hb (l.length + 1) 0 [] (by simp) (by omega) (by omega)
  rw [List.drop_zero] at h
  refine evEq h ?_
  simp [recsA]
theorem implRecs (l : List Int) (hB : isB l) (hb : l.length ≤ 1048576) : Ev (fun k => Ziunpack.f k l) (recsA l) := by
  refine evEq (implRecs_l (l.length + 1) l [] hB (by simpa using hb) (by omega)) ?_
  simp [recsA]
end Go.Proofs.Ythagppmaofcllaa.Q
