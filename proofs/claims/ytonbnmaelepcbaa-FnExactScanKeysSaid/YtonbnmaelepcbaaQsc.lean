/- A range of keys, as a transaction sees it. -/
import Derived.Test.YtonbnmaelepcbaaLb
import Derived.Test.YtonbnmaelepcbaaQf
import Derived.Test.YtonbnmaelepcbaaQce
import Derived.Test.YtonbnmaelepcbaaQnx
import Derived.Test.YtonbnmaelepcbaaQen
import Derived.Test.YtonbnmaelepcbaaQmk
import Derived.Test.YtonbnmaelepcbaaQhi
import Derived.Test.YtonbnmaelepcbaaQsv
import Derived.Test.YtonbnmaelepcbaaP0
import Derived.Test.YtonbnmaelepcbaaPDacdefgh0
import Derived.Test.YtonbnmaelepcbaaPDm0
import Derived.Test.YtonbnmaelepcbaaPDm1
import Derived.Test.YtonbnmaelepcbaaPDm2
namespace Go.Proofs.Ytonbnmaelepcbaa.Q
open Go.RowKit Go.Proofs.Ytonbnmaelepcbaa.P Go.Proofs.YtonbnmaelepcbaaW.PrintWords Go.Proofs.YtonbnmaelepcbaaW.PrintLast Go.Proofs.YtonbnmaelepcbaaW.PrintMore Go.Proofs.Ytonbnmaelepcbaa.Lb
set_option linter.unusedVariables false
set_option linter.unusedSimpArgs false
def cellOf (p : S90 → Bool) (lo hi : Int) (r : S87) : List S105 := if (ro (r.f1.find? p)).2 = true then (if inB r.f0 lo hi = true then [⟨r.f0, (ro (r.f1.find? p)).1⟩] else []) else []
def scanF (p : S90 → Bool) (lo hi : Int) (m : List S87) : List S105 := m.flatMap (cellOf p lo hi)
theorem scanF_step (p : S90 → Bool) (lo hi : Int) (m : List S87) (i : Nat) (h : i < m.length) : scanF p lo hi (m.take (i + 1)) = scanF p lo hi (m.take i) ++ cellOf p lo hi m[i] := by
  unfold scanF
  rw [List.take_succ_eq_append_getElem h, List.flatMap_append]
  simp
theorem scanF_len (p : S90 → Bool) (lo hi : Int) (m : List S87) : (scanF p lo hi m).length ≤ m.length := by
  unfold scanF
  induction m with
  | nil => simp
  | cons x xs ih =>
    rw [List.flatMap_cons, List.length_append, List.length_cons]
    have : (cellOf p lo hi x).length ≤ 1 := by
      unfold cellOf
      by_cases h1 : (ro (x.f1.find? p)).2 = true
      · rw [if_pos h1]
        by_cases h2 : inB x.f0 lo hi = true
        · rw [if_pos h2]; simp
        · rw [if_neg h2]; simp
      · rw [if_neg h1]; simp
    omega
theorem specScan {m : List S87} (hR : RwOK m) (hm : m.length ≤ 1048576) (hr : ∀ r ∈ m, r.f1.length ≤ 1048576) (at_ own lo hi : Int) : Ev (fun k => spec_l6Scan.f k m at_ own lo hi) (scanF (impl_seen.p at_ own) lo hi m) := by
  unfold spec_l6Scan.f
  have := placesEv (L := fun k i => spec_l6Scan.l0 k m at_ own lo hi (i : Int) (scanF (impl_seen.p at_ own) lo hi (m.take i))) (r := scanF (impl_seen.p at_ own) lo hi m) m.length ?_ ?_ m.length 0 (by omega) (by omega)
  · simpa [scanF] using this
  · intro i h
    have h1 : (i : Int) < (m.length : Int) := by omega
    have hs := scanF_step (impl_seen.p at_ own) lo hi m i h
    have hk : (scanF (impl_seen.p at_ own) lo hi (m.take i)).length < 8796093022208 := by have := scanF_len (impl_seen.p at_ own) lo hi (m.take i); simp at this; omega
    have hg : m.getD i z87 = m[i] := getD_at h _
    have hkey := hR.key i h
    rw [hg] at hkey
    have hc := chain_at hR h
    rw [hg] at hc
    obtain ⟨K, hK⟩ := specRead hR hr hkey.1 hkey.2 at_ own
    refine ⟨K, fun k hkk => ?_⟩
    have hKk := hK k hkk
    simp only [hc] at hKk
    show spec_l6Scan.l0 (k + 1) _ _ _ _ _ _ _ = spec_l6Scan.l0 k _ _ _ _ _ _ _
    simp only [spec_l6Scan.l0, h1, Int.natCast_nonneg, if_true, rdRow h, hKk, Option.bind_some, w64n (show i < 9223372036854775807 by omega)]
    rw [hs]
    unfold cellOf
    by_cases h2 : (ro (m[i].f1.find? (impl_seen.p at_ own))).2 = true
    · rw [if_pos h2, if_pos h2]
      by_cases h3 : inB m[i].f0 lo hi = true
      · rw [if_pos h3, if_pos h3, if_pos hk]
      · rw [if_neg h3, if_neg h3, List.append_nil]
    · rw [if_neg h2, if_neg h2, List.append_nil]
  · refine evSucc ?_
    simp only [spec_l6Scan.l0, Int.lt_irrefl, if_false, List.take_length]
    exact evRet rfl
theorem implScan (a b : Int) (l : List S83) (m : List S87) (hm : m.length ≤ 1048576) (t0 t1 t2 t3 : Int) (t4 : List S96) (lo hi : Int) : Ev (fun k => impl_Engine_scan.f k a b l m t0 t1 t2 t3 t4 lo hi) (scanF (impl_seen.p t1 t0) lo hi m) := by
  unfold impl_Engine_scan.f
  have := placesEv (L := fun k i => impl_Engine_scan.l0 k lo hi (scanF (impl_seen.p t1 t0) lo hi (m.take i)) m (m.length : Int) (i : Int) t0 t1 t2 t3 t4) (r := scanF (impl_seen.p t1 t0) lo hi m) m.length ?_ ?_ m.length 0 (by omega) (by omega)
  · simpa [scanF] using this
  · intro i h
    refine ⟨0, fun k _ => ?_⟩
    have h1 : (i : Int) < (m.length : Int) := by omega
    have hs := scanF_step (impl_seen.p t1 t0) lo hi m i h
    have hk : (scanF (impl_seen.p t1 t0) lo hi (m.take i)).length < 8796093022208 := by have := scanF_len (impl_seen.p t1 t0) lo hi (m.take i); simp at this; omega
    have hv : impl_Txn_view.f t0 t1 t2 t3 t4 = some (t1, t0) := rfl
    have hw : impl_within.f m[i].f0 lo hi = some (inB m[i].f0 lo hi) := by
      rw [implIn]
      congr 1
      unfold inB
      by_cases q1 : lo ≤ m[i].f0 <;> by_cases q2 : m[i].f0 ≤ hi <;> simp [q1, q2]
    show impl_Engine_scan.l0 (k + 1) _ _ _ _ _ _ _ _ _ _ _ = impl_Engine_scan.l0 k _ _ _ _ _ _ _ _ _ _ _
    simp only [impl_Engine_scan.l0, h1, Int.natCast_nonneg, if_true, rdRow h, hv, implSV, hw, Option.bind_some, w64n (show i < 9223372036854775807 by omega)]
    rw [hs, sv_ro]
    unfold cellOf
    by_cases h2 : (ro (m[i].f1.find? (impl_seen.p t1 t0))).2 = true
    · rw [if_pos h2, if_pos h2, if_pos rfl]
      by_cases h3 : inB m[i].f0 lo hi = true
      · rw [if_pos h3, if_pos h3, if_pos hk]
      · rw [if_neg h3, if_neg h3, List.append_nil]
    · rw [if_neg h2, if_neg h2, List.append_nil, if_neg (by decide)]
  · refine evSucc ?_
    simp only [impl_Engine_scan.l0, Int.lt_irrefl, if_false, List.take_length]
    exact evRet rfl
def scanOf (nx ck : Int) (l : List S83) (m : List S87) (id lo hi : Int) : Int × List S105 := if faultF cf nx ck l m = 0 then (if etxF l id = 0 then (0, scanF (impl_seen.p (l.getD (idx (fun u : S83 => u.f0 == id) l).toNat z83).f1 (l.getD (idx (fun u : S83 => u.f0 == id) l).toNat z83).f0) lo hi m) else (etxF l id, [])) else (faultF cf nx ck l m, [])
theorem scanOf_len (nx ck : Int) (l : List S83) (m : List S87) (id lo hi : Int) (hm : m.length ≤ 1048576) : (scanOf nx ck l m id lo hi).2.length ≤ 1048576 := by
  unfold scanOf
  split
  · split
    · have := scanF_len (impl_seen.p (l.getD (idx (fun u : S83 => u.f0 == id) l).toNat z83).f1 (l.getD (idx (fun u : S83 => u.f0 == id) l).toNat z83).f0) lo hi m
      show (scanF _ lo hi m).length ≤ _
      omega
    · simp
  · simp
theorem specScanOf (nx ck : Int) (l : List S83) (m : List S87) (id lo hi : Int) (hm : m.length ≤ 1048576) (hr : ∀ r ∈ m, r.f1.length ≤ 1048576) : Ev (fun k => spec_ScanKeys.f k nx ck l m id lo hi) (scanOf nx ck l m id lo hi) := by
  unfold spec_ScanKeys.f scanOf
  refine evCall (specFault nx ck l m (fun r h => by have := hr r h; omega)) ?_
  by_cases h : faultF cf nx ck l m = 0
  · obtain ⟨-, -, -, -, -, hR⟩ := fault_ok h
    rw [if_pos h, h]
    by_cases c : etxF l id = 0
    · rw [if_pos c, asked_in c]
      exact evIte (fun _ => evCall (specScan hR hm hr _ _ lo hi) (evRet rfl)) (fun h => absurd rfl h)
    · rw [if_neg c, asked_out c]
      exact evIte (fun h => absurd h c) (fun _ => evRet rfl)
  · rw [if_neg h, asked_bad h]
    exact evIte (fun h2 => absurd h2 h) (fun _ => evRet rfl)
theorem implScanOf (nx ck : Int) (l : List S83) (m : List S87) (id lo hi : Int) (hm : m.length ≤ 1048576) (ht : ∀ t ∈ l, t.f4.length ≤ 1048576) (hr : ∀ r ∈ m, r.f1.length ≤ 1048576) : Ev (fun k => impl_ScanKeys.f k nx ck l m id lo hi) (scanOf nx ck l m id lo hi) := by
  unfold impl_ScanKeys.f scanOf
  refine evCall (implEF nx ck l m ht hr) (evIte (fun h => ?_) (fun h => ?_))
  · rw [if_pos h]
    refine evIte (fun c => ?_) (fun c => ?_)
    · rw [if_pos c]; exact evCall (implScan nx ck l m hm _ _ _ _ _ lo hi) (evRet rfl)
    · rw [if_neg c]; exact evRet rfl
  · rw [if_neg h]; exact evRet rfl
theorem eqCellsR (a : Int) (l : List S105) (h : l.length ≤ 1048576) : Ev (fun k => laws_eqCellsResult.f k a l a l) true := by
  unfold laws_eqCellsResult.f
  exact evIte (fun _ => evCall (eqCellS l (by omega)) (evIte (fun _ => evRet rfl) (fun h => absurd rfl h))) (fun h => absurd rfl h)
theorem markCellsR (a : Int) (l : List S105) (h : l.length ≤ 1048576) : Ev (fun k => laws_markCellsResult.f k a l 1) (1 + 2 * (l.length : Int), marked meCell 2 1 l.length) := by
  unfold laws_markCellsResult.f
  exact evCall (markCellS l 1 (by omega) (by omega) (by omega)) (evRet rfl)
theorem heldCellsR (a : Int) (n : Nat) (h : n ≤ 1048576) : Ev (fun k => laws_heldCellsResult.f k a (marked meCell 2 1 n) 1) (1 + 2 * (n : Int)) := by
  unfold laws_heldCellsResult.f
  exact evCall (heldCellS n 1 (by omega) (by omega) (by omega)) (evIte (fun h => absurd h (by omega)) (fun _ => evRet rfl))
end Go.Proofs.Ytonbnmaelepcbaa.Q
