/- What a view sees in a chain of an engine, and what is read there. -/
import Derived.Test.YtonbnmaelepcbaaLb
import Derived.Test.YtonbnmaelepcbaaQf
import Derived.Test.YtonbnmaelepcbaaQce
import Derived.Test.YtonbnmaelepcbaaQnx
import Derived.Test.YtonbnmaelepcbaaQen
import Derived.Test.YtonbnmaelepcbaaQmk
import Derived.Test.YtonbnmaelepcbaaQhi
import Derived.Test.YtonbnmaelepcbaaP0
import Derived.Test.YtonbnmaelepcbaaPDacdefgh0
import Derived.Test.YtonbnmaelepcbaaPDm1
import Derived.Test.YtonbnmaelepcbaaPDm2
namespace Go.Proofs.Ytonbnmaelepcbaa.Q
open Go.RowKit Go.Proofs.Ytonbnmaelepcbaa.P Go.Proofs.YtonbnmaelepcbaaW.PrintWords Go.Proofs.YtonbnmaelepcbaaW.PrintLast Go.Proofs.YtonbnmaelepcbaaW.PrintMore Go.Proofs.Ytonbnmaelepcbaa.Lb
set_option linter.unusedVariables false
set_option linter.unusedSimpArgs false
/-- What is told of the version that is seen. -/
def sv : Option S90 → Int × Int
  | some x => if x.f2 = true then (4, 0) else (0, x.f3)
  | none => (4, 0)
theorem idxFrom_find (p : S90 → Bool) : ∀ (rest pre : List S90), (idxFrom p (pre.length : Int) rest = -1 ∧ rest.find? p = none) ∨ ∃ i : Nat, idxFrom p (pre.length : Int) rest = i ∧ ∃ h : i < (pre ++ rest).length, rest.find? p = some (pre ++ rest)[i]
  | [], pre => .inl ⟨rfl, rfl⟩
  | v :: vs, pre => by
    cases hv : p v with
    | true => exact .inr ⟨pre.length, by simp [idxFrom, hv], by simp, by simp [hv]⟩
    | false =>
      have ih := idxFrom_find p vs (pre ++ [v])
      simp only [List.append_assoc, List.singleton_append] at ih
      have e : (((pre ++ [v]).length : Nat) : Int) = (pre.length : Int) + 1 := by simp
      rw [e] at ih
      simpa [idxFrom, hv] using ih
theorem implSV (l : List S90) (at_ own : Int) : impl_seenValue.f l at_ own = some (sv (l.find? (impl_seen.p at_ own))) := by
  unfold impl_seenValue.f impl_seen.f
  rw [Option.bind_some]
  rcases idxFrom_find (impl_seen.p at_ own) l [] with ⟨h1, h2⟩ | ⟨i, h1, h2, h3⟩
  · have h1' : idx (impl_seen.p at_ own) l = -1 := h1
    rw [h1', h2]
    rfl
  · have h1' : idx (impl_seen.p at_ own) l = (i : Int) := h1
    simp only [List.nil_append] at h2 h3
    have hlt : (i : Int) < (l.length : Int) := by omega
    rw [h1', h3]
    simp only [show ¬ ((i : Int) < 0) by omega, if_false, Int.natCast_nonneg, if_true, hlt, rdV h2, sv]
    by_cases hg : l[i].f2 = true <;> simp [hg]
/-- The place that the other side tells. -/
def sidx (p : S90 → Bool) : Int → List S90 → Int
  | _, [] => -1
  | i, v :: vs => if p v = true then (if v.f2 = true then -1 else i) else sidx p (i + 1) vs
theorem sidx_find (p : S90 → Bool) : ∀ (rest pre : List S90), (sidx p (pre.length : Int) rest = -1 ∧ sv (rest.find? p) = (4, 0)) ∨ ∃ i : Nat, sidx p (pre.length : Int) rest = i ∧ ∃ h : i < (pre ++ rest).length, sv (rest.find? p) = (0, (pre ++ rest)[i].f3)
  | [], pre => .inl ⟨rfl, rfl⟩
  | v :: vs, pre => by
    by_cases hv : p v = true
    · by_cases hg : v.f2 = true
      · exact .inl ⟨by simp [sidx, hv, hg], by simp [hv, sv, hg]⟩
      · exact .inr ⟨pre.length, by simp [sidx, hv, hg], by simp, by simp [hv, sv, hg]⟩
    · have ih := sidx_find p vs (pre ++ [v])
      simp only [List.append_assoc, List.singleton_append] at ih
      have e : (((pre ++ [v]).length : Nat) : Int) = (pre.length : Int) + 1 := by simp
      rw [e] at ih
      simpa [sidx, hv] using ih
set_option maxHeartbeats 1000000 in
theorem specSeen_l (at_ own : Int) : ∀ (rest pre : List S90), (∀ x ∈ rest, 0 ≤ x.f1) → (pre ++ rest).length ≤ 8796093022208 → Ev (fun k => spec_l5Seen.l0 k (pre ++ rest) (pre.length : Int) at_ own) (sidx (impl_seen.p at_ own) (pre.length : Int) rest)
  | [], pre, h0, hb => by
    refine evSucc ?_
    simp only [spec_l5Seen.l0, List.append_nil, Int.lt_irrefl, if_false]
    exact evRet (by simp [sidx])
  | v :: vs, pre, h0, hb => by
    have hb' : pre.length + 1 ≤ 8796093022208 := by simp at hb; omega
    have ih := specSeen_l at_ own vs (pre ++ [v]) (fun x hx => h0 x (by simp [hx])) (by simpa using hb)
    have hn : (((pre ++ [v]).length : Nat) : Int) = wrap64 ((pre.length : Int) + 1) := by rw [w64n (by omega)]; simp
    have hn2 : wrap64 ((pre.length : Int) + 1) = (pre.length : Int) + 1 := by rw [w64n (by omega)]; simp
    rw [hn, List.append_assoc, List.singleton_append] at ih
    have h1 : (pre.length : Int) < ((pre ++ v :: vs).length : Int) := by simp <;> omega
    have rv := rd_mid pre v vs
    have hv0 := h0 v (by simp)
    have key : ∀ b : Bool, b = impl_seen.p at_ own v → Ev (fun k => spec_l5Seen.j1 k (pre ++ v :: vs) (pre.length : Int) b at_ own v.f0 v.f1 v.f2 v.f3) (sidx (impl_seen.p at_ own) (pre.length : Int) (v :: vs)) := by
      intro b hb2
      subst hb2
      refine evSucc ?_
      simp only [spec_l5Seen.j1]
      refine evIte (fun h => evIte (fun h2 => evRet (by simp [sidx, h, h2])) (fun h2 => evRet (by simp [sidx, h, h2]))) (fun h => evEq ih ?_)
      rw [hn2]
      simp [sidx, h]
    refine evSucc ?_
    simp only [spec_l5Seen.l0, h1, Int.natCast_nonneg, if_true, rv]
    repeat' (refine evIte (fun _ => ?_) (fun _ => ?_))
    all_goals (refine key _ ?_; simp only [impl_seen.p]; grind)
theorem specSeenF (l : List S90) (at_ own : Int) (h0 : ∀ x ∈ l, 0 ≤ x.f1) (hb : l.length ≤ 1048576) : Ev (fun k => spec_l5Seen.f k l at_ own) (sidx (impl_seen.p at_ own) 0 l) := specSeen_l at_ own l [] h0 (by simpa using (by omega : l.length ≤ 8796093022208))
theorem cfL_all : ∀ (l : List S90) (p : Option S90), cfL p l = 0 → ∀ x ∈ l, okV x
  | [], _, _, x, hx => by simp at hx
  | v :: vs, p, h, x, hx => by
    unfold cfL at h
    by_cases ho : okV v
    · rw [if_pos ho] at h
      by_cases hb : badV p v
      · rw [if_pos hb] at h; exact absurd h (by decide)
      · rw [if_neg hb] at h
        rcases List.mem_cons.1 hx with rfl | hx
        · exact ho
        · exact cfL_all vs (some v) h x hx
    · rw [if_neg ho] at h; exact absurd h (by decide)
theorem cf_all {l : List S90} (h : cf l = 0) : ∀ x ∈ l, okV x := by
  unfold cf at h
  by_cases h12 : 12 < l.length
  · rw [if_pos h12] at h; exact absurd h (by decide)
  · rw [if_neg h12] at h; exact cfL_all l none h
theorem chain_all {m : List S87} (hR : RwOK m) {key : Int} (h0 : 0 ≤ key) (h1 : key ≤ 31) : ∀ x ∈ chainF m key, 0 ≤ x.f1 := by
  rcases row_or m key with ⟨n, hn, e⟩ | hno
  · rw [← e, chain_at hR hn]
    exact fun x hx => (cf_all (hR.ch n hn) x hx).2.2.1
  · rw [chain_none hR h0 h1 hno]; simp
def ro : Option S90 → Int × Bool
  | some x => if x.f2 = true then (0, false) else (x.f3, true)
  | none => (0, false)
theorem ro_none {o : Option S90} (h : sv o = (4, 0)) : ro o = (0, false) := by
  cases o with
  | none => rfl
  | some x => by_cases hx : x.f2 = true <;> simp [sv, ro, hx] at h ⊢
theorem ro_some {o : Option S90} {v : Int} (h : sv o = (0, v)) : ro o = (v, true) := by
  cases o with
  | none => simp [sv] at h
  | some x => by_cases hx : x.f2 = true <;> simp [sv, ro, hx] at h ⊢ <;> exact h
theorem sv_ro (o : Option S90) : sv o = if (ro o).2 = true then (0, (ro o).1) else (4, 0) := by
  cases o with
  | none => rfl
  | some x => by_cases hx : x.f2 = true <;> simp [sv, ro, hx]
theorem specRead {m : List S87} (hR : RwOK m) (hr : ∀ r ∈ m, r.f1.length ≤ 1048576) {key : Int} (h0 : 0 ≤ key) (h1 : key ≤ 31) (at_ own : Int) : Ev (fun k => spec_l6Read.f k m at_ own key) (ro ((chainF m key).find? (impl_seen.p at_ own))) := by
  unfold spec_l6Read.f
  have hlen := chain_len hR hr h0 h1
  have hall := chain_all hR h0 h1
  rcases row_or m key with ⟨n, hn, e⟩ | hno
  · obtain ⟨-, -, hi⟩ := row_at hR hn
    have hc := chain_at hR hn
    rw [e] at hi hc
    refine evIte (fun h2 => absurd h2 (by rw [hi]; omega)) (fun _ => ?_)
    simp only [hi, Int.toNat_natCast, ← hc]
    refine evCall (specSeenF _ at_ own hall hlen) ?_
    rcases sidx_find (impl_seen.p at_ own) (chainF m key) [] with ⟨g1, g2⟩ | ⟨i, g1, g2, g3⟩
    · have g1' : sidx (impl_seen.p at_ own) 0 (chainF m key) = -1 := g1
      rw [g1', ro_none g2]
      exact evIte (fun _ => evRet rfl) (fun h3 => absurd (by decide) h3)
    · have g1' : sidx (impl_seen.p at_ own) 0 (chainF m key) = (i : Int) := g1
      simp only [List.nil_append] at g2 g3
      have hlt : (i : Int) < ((chainF m key).length : Int) := by omega
      rw [g1', ro_some g3]
      refine evIte (fun h3 => absurd h3 (by omega)) (fun _ => evIte (fun _ => ?_) (fun h3 => absurd hlt h3))
      rw [rdV g2]
      exact evRet rfl
  · obtain ⟨-, hi⟩ := row_none hR h0 h1 hno
    have hc := chain_none hR h0 h1 hno
    rw [hc]
    exact evIte (fun _ => evRet rfl) (fun h2 => absurd hi (by omega))
theorem asked_in {l : List S83} {id : Int} (c : etxF l id = 0) : askedF 0 l id = (idx (fun u : S83 => u.f0 == id) l, 0) := by
  unfold etxF at c
  unfold askedF
  rw [if_pos rfl]
  by_cases c2 : idx (fun u : S83 => u.f0 == id) l < 0
  · rw [if_pos c2] at c; exact absurd c (by decide)
  · rw [if_neg c2] at c ⊢
    by_cases c3 : ((l.getD (idx (fun u : S83 => u.f0 == id) l).toNat z83).f2 == 1) = true
    · rw [if_pos c3]
    · rw [if_neg c3] at c; exact absurd c (by decide)
theorem asked_out {l : List S83} {id : Int} (c : etxF l id ≠ 0) : askedF 0 l id = (0, etxF l id) := by
  unfold etxF at c ⊢
  unfold askedF
  rw [if_pos rfl]
  by_cases c2 : idx (fun u : S83 => u.f0 == id) l < 0
  · rw [if_pos c2, if_pos c2]
  · rw [if_neg c2] at c
    rw [if_neg c2, if_neg c2]
    by_cases c3 : ((l.getD (idx (fun u : S83 => u.f0 == id) l).toNat z83).f2 == 1) = true
    · rw [if_pos c3] at c; exact absurd rfl c
    · rw [if_neg c3, if_neg c3]
theorem asked_bad {f : Int} {l : List S83} {id : Int} (c : f ≠ 0) : askedF f l id = (0, f) := by
  unfold askedF
  rw [if_neg c]
def readOf (nx ck : Int) (l : List S83) (m : List S87) (id key : Int) : Int × Int := if faultF cf nx ck l m = 0 then (if etxF l id = 0 then (if inB key 0 31 = true then sv ((chainF m key).find? (impl_seen.p (l.getD (idx (fun u : S83 => u.f0 == id) l).toNat z83).f1 (l.getD (idx (fun u : S83 => u.f0 == id) l).toNat z83).f0)) else (3, 0)) else (etxF l id, 0)) else (faultF cf nx ck l m, 0)
theorem specReadOf (nx ck : Int) (l : List S83) (m : List S87) (id key : Int) (hr : ∀ r ∈ m, r.f1.length ≤ 1048576) : Ev (fun k => spec_ReadKey.f k nx ck l m id key) (readOf nx ck l m id key) := by
  unfold spec_ReadKey.f readOf
  refine evCall (specFault nx ck l m (fun r h => by have := hr r h; omega)) ?_
  by_cases h : faultF cf nx ck l m = 0
  · obtain ⟨-, -, -, -, -, hR⟩ := fault_ok h
    rw [if_pos h, h]
    by_cases c : etxF l id = 0
    · rw [if_pos c, asked_in c]
      refine evIte (fun _ => ?_) (fun h => absurd rfl h)
      refine evIte (fun hk => ?_) (fun hk => ?_)
      · rw [if_pos hk]
        obtain ⟨h0, h1⟩ := (inB_iff _ _ _).1 hk
        refine evCall (specRead hR hr h0 h1 _ _) ?_
        rw [sv_ro]
        exact evIte (fun h => evRet (by rw [if_pos h])) (fun h => evRet (by rw [if_neg h]))
      · rw [if_neg hk]; exact evRet rfl
    · rw [if_neg c, asked_out c]
      exact evIte (fun h => absurd h c) (fun _ => evRet rfl)
  · rw [if_neg h, asked_bad h]
    exact evIte (fun h2 => absurd h2 h) (fun _ => evRet rfl)
theorem implReadOf (nx ck : Int) (l : List S83) (m : List S87) (id key : Int) (ht : ∀ t ∈ l, t.f4.length ≤ 1048576) (hr : ∀ r ∈ m, r.f1.length ≤ 1048576) : Ev (fun k => impl_ReadKey.f k nx ck l m id key) (readOf nx ck l m id key) := by
  unfold impl_ReadKey.f readOf
  refine evCall (implEF nx ck l m ht hr) (evIte (fun h => ?_) (fun h => ?_))
  · rw [if_pos h]
    refine evIte (fun c => ?_) (fun c => ?_)
    · rw [if_pos c]
      refine evIte (fun hk => ?_) (fun hk => ?_)
      · rw [if_pos hk]; exact evPure (implSV _ _ _)
      · rw [if_neg hk]; exact evRet rfl
    · rw [if_neg c]; exact evRet rfl
  · rw [if_neg h]; exact evRet rfl
end Go.Proofs.Ytonbnmaelepcbaa.Q
