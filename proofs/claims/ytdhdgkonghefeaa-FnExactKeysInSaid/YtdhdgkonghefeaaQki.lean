/- The keys of a range: both sides tell the leaves' keys, ascending. -/
import Derived.Test.YtdhdgkonghefeaaLb
import Derived.Test.YtdhdgkonghefeaaQf
import Derived.Test.YtdhdgkonghefeaaQnx
import Derived.Test.YtdhdgkonghefeaaQtr
import Derived.Test.YtdhdgkonghefeaaQpa
import Derived.Test.YtdhdgkonghefeaaP0
import Derived.Test.YtdhdgkonghefeaaPCall1
import Derived.Test.YtdhdgkonghefeaaPCall3
import Derived.Test.YtdhdgkonghefeaaPCall5
import Derived.Test.YtdhdgkonghefeaaPCbcdf0
import Derived.Test.YtdhdgkonghefeaaPDm0
namespace Go.Proofs.Ytdhdgkonghefeaa.Q
open Go.RowKit Go.Proofs.Ytdhdgkonghefeaa.P Go.Proofs.YtdhdgkonghefeaaW.PrintWords Go.Proofs.YtdhdgkonghefeaaW.PrintLast Go.Proofs.YtdhdgkonghefeaaW.PrintMore Go.Proofs.Ytdhdgkonghefeaa.Lb
set_option linter.unusedVariables false
set_option linter.unusedSimpArgs false
def lkN (n : S58) : List Int := if n.f0 = true then n.f1 else []
def lk (nodes : List S58) (a : Int) : List Int := lkN (nodes.getD a.toNat z58)
theorem ups_lk (nodes : List S58) : (ups nodes.length).flatMap (lk nodes) = nodes.flatMap lkN := by
  have : nodes = (List.range nodes.length).map (fun i => nodes.getD i z58) := by
    apply List.ext_getElem
    · simp
    · intro i h1 h2
      simp [List.getD_eq_getElem?_getD, h1]
  conv => rhs; rw [this]
  simp only [ups, List.flatMap_map]
  rfl
theorem pair_of_rise : ∀ (l : List Int), (∀ i, i + 1 < l.length → l.getD i 0 < l.getD (i + 1) 0) → l.Pairwise (· < ·)
  | [], _ => List.Pairwise.nil
  | [x], _ => by simp
  | x :: y :: l, h => by
    have ht := pair_of_rise (y :: l) (fun i hi => by have := h (i + 1) (by simp at hi ⊢; omega); simpa using this)
    have hxy : x < y := by have := h 0 (by simp); simpa using this
    refine List.pairwise_cons.2 ⟨fun z hz => ?_, ht⟩
    rcases List.mem_cons.1 hz with rfl | hz
    · exact hxy
    · have := (List.pairwise_cons.1 ht).1 z hz; omega
theorem keysBad_ok {lo hi : Int} {ks : List Int} (h : keysBad lo hi ks = false) : ∀ x ∈ ks, lo ≤ x ∧ x < hi := by
  intro x hx
  unfold keysBad at h
  have := List.any_eq_false.1 h x hx
  simp at this
  omega
theorem mem_of_getD {l : List Int} {i : Nat} (h : i < l.length) : l.getD i 0 ∈ l := by
  rw [Lb.getD_at h]; exact List.getElem_mem h
def bnd (n : S58) (lo hi : Int) (i : Nat) : Int := if i < n.f2.length then loK n lo i else hi
theorem kids_all {nodes : List S58} {v : G4 → Int → Int → Int → Nat → Option G4} {f : Int → Option (List Int)} {n : S58} (lo hi : Int) (d : Nat) (hk : ∀ x ∈ n.f2, 0 ≤ x ∧ x < (nodes.length : Int)) (hlen : n.f2.length = n.f1.length + 1)
    (hb : ∀ x ∈ n.f1, lo ≤ x ∧ x < hi) (hr : ∀ i, i + 1 < n.f1.length → n.f1.getD i 0 < n.f1.getD (i + 1) 0)
    (hv : ∀ g a lo hi d g', 0 ≤ a → a < (nodes.length : Int) → v g a lo hi d = some g' → g'.bad = false → ∃ vis p, g'.seen = g.seen ++ vis ∧ f a = some p ∧ p.Perm (vis.flatMap (lk nodes)) ∧ p.Pairwise (· < ·) ∧ ∀ x ∈ p, lo ≤ x ∧ x < hi) :
    ∀ m i g g' acc, m + i = n.f2.length → kidsW v n lo hi d m i g = some g' → g'.bad = false → acc.Pairwise (· < ·) → (∀ x ∈ acc, lo ≤ x ∧ x < bnd n lo hi i) → (i = 0 → acc = []) →
      ∃ vis p, g'.seen = g.seen ++ vis ∧ kidsAll f (n.f2.drop i) acc = some (acc ++ p) ∧ p.Perm (vis.flatMap (lk nodes)) ∧ (acc ++ p).Pairwise (· < ·) ∧ ∀ x ∈ acc ++ p, lo ≤ x ∧ x < hi
  | 0, i, g, g', acc, hm, he, hbad, hs, ha, _ => by
    unfold kidsW at he
    cases he
    have hi' : n.f2.drop i = [] := List.drop_eq_nil_of_le (by omega)
    refine ⟨[], [], by simp, by rw [hi']; simp [kidsAll], by simp, by simpa using hs, ?_⟩
    simp only [List.append_nil]
    intro x hx
    have := ha x hx
    unfold bnd at this
    rw [if_neg (by omega)] at this
    exact this
  | m + 1, i, g, g', acc, hm, he, hbad, hs, ha, h0 => by
    unfold kidsW at he
    by_cases hg : g.bad = true
    · rw [if_pos hg] at he; cases he; rw [hg] at hbad; cases hbad
    rw [if_neg hg] at he
    obtain ⟨g1, e1, e2⟩ := Option.bind_eq_some_iff.1 he
    have hb1 : g1.bad = false := by
      cases h : g1.bad with
      | false => rfl
      | true =>
        cases m with
        | zero => unfold kidsW at e2; cases e2; rw [h] at hbad; cases hbad
        | succ m => unfold kidsW at e2; rw [if_pos h] at e2; cases e2; rw [h] at hbad; cases hbad
    have hlt : i < n.f2.length := by omega
    have hki := hk _ (mem_of_getD hlt)
    obtain ⟨vis1, p1, s1, f1, pm1, so1, r1⟩ := hv _ _ _ _ _ _ hki.1 hki.2 e1 hb1
    have hlo : lo ≤ loK n lo i := by
      unfold loK
      split
      · exact (hb _ (mem_of_getD (by omega))).1
      · omega
    have hle : i = 0 ∨ loK n lo i ≤ hiK n hi i := by
      unfold loK hiK
      rcases Nat.eq_zero_or_pos i with h | h
      · exact Or.inl h
      · right
        rw [if_pos h]
        split
        · rename_i hc
          have := hr (i - 1) (by omega)
          rw [show i - 1 + 1 = i by omega] at this
          omega
        · have := (hb _ (mem_of_getD (l := n.f1) (i := i - 1) (by omega))).2
          omega
    have hbn : bnd n lo hi (i + 1) = hiK n hi i := by
      unfold bnd hiK loK
      by_cases c : i < n.f1.length
      · rw [if_pos (by omega), if_pos (by omega), if_pos c]; simp
      · rw [if_neg (by omega), if_neg c]
    have hbi : bnd n lo hi i = loK n lo i := by unfold bnd; rw [if_pos hlt]
    rw [hbi] at ha
    have hs2 : (acc ++ p1).Pairwise (· < ·) := by
      rw [List.pairwise_append]
      exact ⟨hs, so1, fun x hx y hy => by have := (ha x hx).2; have := (r1 y hy).1; omega⟩
    have ha2 : ∀ x ∈ acc ++ p1, lo ≤ x ∧ x < bnd n lo hi (i + 1) := by
      rw [hbn]
      intro x hx
      rcases List.mem_append.1 hx with hx | hx
      · have := ha x hx
        rcases hle with h | h
        · rw [h0 h] at hx; cases hx
        · omega
      · have := r1 x hx; omega
    obtain ⟨vis2, p2, s2, f2, pm2, so2, r2⟩ := kids_all lo hi d hk hlen hb hr hv m (i + 1) g1 g' (acc ++ p1) (by omega) e2 hbad hs2 ha2 (by omega)
    refine ⟨vis1 ++ vis2, p1 ++ p2, by rw [s2, s1, List.append_assoc], ?_, ?_, ?_, ?_⟩
    · rw [List.drop_eq_getElem_cons hlt]
      unfold kidsAll
      rw [← Lb.getD_at (z := 0) hlt, f1]
      show kidsAll f (n.f2.drop (i + 1)) (acc ++ p1) = _
      rw [f2, List.append_assoc]
    · rw [List.flatMap_append]; exact pm1.append pm2
    · rw [← List.append_assoc]; exact so2
    · rw [← List.append_assoc]; exact r2
theorem walk_all {nodes : List S58} (hc : ∀ n ∈ nodes, n.f0 = false → n.f2.length = n.f1.length + 1) (hk : kidsOk nodes) (hr : ∀ n ∈ nodes, ∀ i, i + 1 < n.f1.length → n.f1.getD i 0 < n.f1.getD (i + 1) 0) : ∀ k g a lo hi d g', 0 ≤ a → a < (nodes.length : Int) → walkW nodes k g a lo hi d = some g' → g'.bad = false →
      ∃ vis p, g'.seen = g.seen ++ vis ∧ allW nodes k a = some p ∧ p.Perm (vis.flatMap (lk nodes)) ∧ p.Pairwise (· < ·) ∧ ∀ x ∈ p, lo ≤ x ∧ x < hi
  | 0, g, a, lo, hi, d, g', _, _, he, _ => by cases he
  | k + 1, g, a, lo, hi, d, g', h0, h1, he, hb => by
    unfold walkW at he
    unfold allW
    by_cases hs : g.seen.contains a = true
    · rw [if_pos hs] at he; cases he; cases hb
    rw [if_neg hs] at he
    have hm : nodes.getD a.toNat z58 ∈ nodes := by
      rw [List.getD_eq_getElem?_getD, List.getElem?_eq_getElem (by omega)]; exact List.getElem_mem _
    by_cases hl : (nodes.getD a.toNat z58).f0 = true
    · rw [if_pos hl] at he ⊢
      cases he
      simp only [Bool.or_eq_false_iff] at hb
      have hkb := keysBad_ok hb.1.2
      have hlk : lk nodes a = (nodes.getD a.toNat z58).f1 := by unfold lk lkN; rw [if_pos hl]
      exact ⟨[a], _, rfl, rfl, by rw [List.flatMap_cons, List.flatMap_nil, List.append_nil, hlk], pair_of_rise _ (hr _ hm), hkb⟩
    · rw [if_neg hl] at he ⊢
      have hlen := hc _ hm (by simpa using hl)
      have hkb : keysBad lo hi (nodes.getD a.toNat z58).f1 = false := by
        cases h : keysBad lo hi (nodes.getD a.toNat z58).f1 with
        | false => rfl
        | true =>
          rw [h, hlen] at he
          unfold kidsW at he
          rw [if_pos (by simp)] at he
          cases he
          simp at hb
      obtain ⟨vis, p, s, f, pm, so, r⟩ := kids_all (f := allW nodes k) lo hi d (hk _ hm) hlen (keysBad_ok hkb) (hr _ hm) (fun g a lo hi d g' h0 h1 e b => walk_all hc hk hr k g a lo hi d g' h0 h1 e b) _ 0 _ g' [] (by omega) he hb List.Pairwise.nil (by simp) (fun _ => rfl)
      rw [List.drop_zero, List.nil_append] at f
      rw [List.nil_append] at so r
      refine ⟨a :: vis, p, by rw [s]; simp, f, ?_, so, r⟩
      have hlk : lk nodes a = [] := by unfold lk lkN; rw [if_neg hl]
      rw [List.flatMap_cons, hlk, List.nil_append]
      exact pm
theorem tree_all {root : Int} {nodes : List S58} (ht : treeF root nodes = 0) : ∃ p, allW nodes 61 root = some p ∧ p.Perm (nodes.flatMap lkN) ∧ p.Pairwise (· < ·) := by
  obtain ⟨n1, n2, hlen, hkid, h3, h4, _⟩ := treeF_ok ht
  have hnil : inR nodes.length ([] : List Int) := ⟨List.nodup_nil, fun x hx => absurd hx (by simp)⟩
  unfold treeF at ht
  rw [if_neg (by omega), if_neg (by omega)] at ht
  by_cases hq : scanI (fun i => nodeF nodes.length (nodes.getD i z58)) nodes.length 0 = 0
  case neg => rw [if_neg hq] at ht; exact absurd ht hq
  rw [if_pos hq] at ht
  have hr : ∀ n ∈ nodes, ∀ i, i + 1 < n.f1.length → n.f1.getD i 0 < n.f1.getD (i + 1) 0 := fun n hn i hi => by
    obtain ⟨j, hj, rfl⟩ := List.mem_iff_getElem.1 hn
    have h0 := scanI_all _ _ hq j (by omega) (by omega)
    have h0 : nodeF nodes.length (nodes.getD j z58) = 0 := h0
    rw [Lb.getD_at hj] at h0
    have h5 := (nodeF_ok n1 n2 h0).2.2.1
    have h6 := scanI_all _ _ h5 (i + 1) (by omega) (by omega)
    unfold riseF at h6
    rw [show i + 1 - 1 = i by omega] at h6
    by_cases c : nodes[j].f1.getD (i + 1) 0 ≤ nodes[j].f1.getD i 0
    · rw [if_pos c] at h6; cases h6
    · omega
  by_cases hb : inB root 0 (wrap64 ((nodes.length : Int) - 1)) = true
  case neg => rw [if_neg hb] at ht; cases ht
  rw [if_pos hb] at ht
  cases hw : walkW nodes 61 ⟨[], 0, false⟩ root 0 10001 1 with
  | none =>
    obtain ⟨g', hw2, -⟩ := walkW_some hkid 61 ⟨[], 0, false⟩ root 0 10001 1 hnil h3 h4 (by simp only [List.length_nil]; omega)
    rw [hw] at hw2; cases hw2
  | some g =>
    rw [hw] at ht
    simp only [treeEnd] at ht
    cases hbad : g.bad with
    | true => rw [if_pos hbad] at ht; cases ht
    | false =>
      rw [if_neg (by rw [hbad]; decide)] at ht
      by_cases hl : (g.seen.length : Int) = (nodes.length : Int)
      case neg => rw [if_neg hl] at ht; cases ht
      obtain ⟨vis, p, s, f, pm, so, r⟩ := walk_all (fun n hn => (hlen n hn).2.2) hkid hr 61 _ _ _ _ _ g h3 h4 hw hbad
      have hin := walkW_inR 61 _ _ _ _ _ g hkid hnil h3 h4 hw
      have s : g.seen = vis := by simpa using s
      have hv : g.seen.Perm (ups nodes.length) := (List.perm_ext_iff_of_nodup hin.1 (nodup_ups _)).2 (fun x => by
        rw [mem_ups]
        exact ⟨hin.2 x, fun hx => by have := (Go.Proofs.Ytdhdgkonghefeaa.P.all_seen hin).2 (by omega) x.toNat (by omega); rwa [Int.toNat_of_nonneg hx.1] at this⟩)
      refine ⟨p, f, pm.trans ?_, so⟩
      rw [← s, ← ups_lk]
      exact hv.flatMap_right _
def inL (lo hi x : Int) : Bool := decide (lo ≤ x) && decide (x ≤ hi)
theorem l1In_f (x lo hi : Int) : spec_l1In.f x lo hi = some (inL lo hi x) := by
  unfold spec_l1In.f inL
  by_cases h : x ≥ lo
  · rw [if_pos h, decide_eq_true (show lo ≤ x from h), Bool.true_and]
  · rw [if_neg h, decide_eq_false (show ¬ lo ≤ x from h), Bool.false_and]
theorem within_f (x lo hi : Int) : impl_within.f x lo hi = some (inL lo hi x) := by
  unfold impl_within.f inL
  by_cases h : lo ≤ x
  · rw [if_pos h, decide_eq_true h, Bool.true_and]
  · rw [if_neg h, decide_eq_false h, Bool.false_and]
theorem specKeys {lo hi : Int} {p : List Int} (hp : p.length ≤ 1000) : ∀ m i acc, m + i = p.length → acc.length ≤ i → Ev (fun k => spec_KeysIn.l0 k lo hi p (i : Int) 0 acc) (0, acc ++ (p.drop i).filter (inL lo hi))
  | 0, i, acc, hm, ha => by
    rw [List.drop_eq_nil_of_le (by omega), List.filter_nil, List.append_nil]
    apply evSucc
    simp only [spec_KeysIn.l0]
    exact evIte (fun h => absurd h (by omega)) (fun _ => evRet rfl)
  | m + 1, i, acc, hm, ha => by
    have hlt : i < p.length := by omega
    apply evSucc
    simp only [spec_KeysIn.l0, l1In_f, Option.bind_some]
    rw [show rd p (i : Int) = p[i] by unfold rd; rw [Int.toNat_natCast, Lb.getD_at hlt], w64n (by omega), List.drop_eq_getElem_cons hlt]
    refine evIte (fun _ => evIte (fun _ => evIte (fun hx => evIte (fun _ => ?_) (fun h => absurd (by omega) h)) (fun hx => ?_)) (fun h => absurd (by omega) h)) (fun h => absurd (by omega) h)
    · rw [List.filter_cons_of_pos hx]
      have := specKeys (lo := lo) (hi := hi) hp m (i + 1) (acc ++ [p[i]]) (by omega) (by simp only [List.length_append, List.length_singleton]; omega)
      rwa [List.append_assoc, List.singleton_append] at this
    · rw [List.filter_cons_of_neg hx]
      exact specKeys (lo := lo) (hi := hi) hp m (i + 1) acc (by omega) (by omega)
def fN (lo hi : Int) (n : S58) : List Int := n.f1.filter fun x => n.f0 && inL lo hi x
theorem implKeys1 {lo hi nn ii : Int} {nodes : List S58} {ks ds : List Int} {lf : Bool} {r : Int × List Int} (hk : ks.length ≤ 3) : ∀ m j acc, m + j = ks.length → acc.length ≤ 1000 + j → Ev (fun k => impl_KeysIn.l0 k lo hi (acc ++ (ks.drop j).filter (fun x => lf && inL lo hi x)) nodes nn (wrap64 (ii + 1))) r →
    Ev (fun k => impl_KeysIn.l1 k lo hi acc nodes nn ii ks (ks.length : Int) (j : Int) lf ks ds) r
  | 0, j, acc, hm, ha, h => by
    rw [List.drop_eq_nil_of_le (by omega), List.filter_nil, List.append_nil] at h
    apply evSucc
    simp only [impl_KeysIn.l1]
    exact evIte (fun h => absurd h (by omega)) (fun _ => h)
  | m + 1, j, acc, hm, ha, h => by
    have hlt : j < ks.length := by omega
    apply evSucc
    simp only [impl_KeysIn.l1, within_f, Option.bind_some]
    rw [show rd ks (j : Int) = ks[j] by unfold rd; rw [Int.toNat_natCast, Lb.getD_at hlt], w64n (by omega)]
    rw [List.drop_eq_getElem_cons hlt] at h
    refine evIte (fun _ => evIte (fun _ => evIte (fun _ => evIte (fun hf => evIte (fun hx => evIte (fun _ => ?_) (fun h => absurd (by omega) h)) (fun hx => ?_)) (fun hf => ?_)) (fun h => absurd (by omega) h)) (fun h => absurd (by omega) h)) (fun h => absurd (by omega) h)
    · rw [List.filter_cons_of_pos (by rw [hf, hx]; rfl)] at h
      refine implKeys1 hk m (j + 1) (acc ++ [ks[j]]) (by omega) (by simp only [List.length_append, List.length_singleton]; omega) ?_
      rwa [List.append_assoc, List.singleton_append]
    · rw [List.filter_cons_of_neg (by simp only [Bool.and_eq_true]; exact fun e => hx e.2)] at h
      exact implKeys1 hk m (j + 1) acc (by omega) (by omega) h
    · rw [List.filter_cons_of_neg (by simp only [Bool.and_eq_true]; exact fun e => hf e.1)] at h
      exact implKeys1 hk m (j + 1) acc (by omega) (by omega) h
theorem implKeys0 {lo hi : Int} {nodes : List S58} (hn : nodes.length ≤ 60) (hk : ∀ n ∈ nodes, n.f1.length ≤ 3) : ∀ m i acc, m + i = nodes.length → acc.length ≤ 3 * i → Ev (fun k => impl_KeysIn.l0 k lo hi acc nodes (nodes.length : Int) (i : Int)) (0, sortI (acc ++ (nodes.drop i).flatMap (fN lo hi)))
  | 0, i, acc, hm, ha => by
    rw [List.drop_eq_nil_of_le (by omega), List.flatMap_nil, List.append_nil]
    apply evSucc
    simp only [impl_KeysIn.l0]
    refine evIte (fun h => absurd h (by omega)) (fun _ => ?_)
    unfold slices_Sort_int64.f
    rw [if_pos (by omega)]
    exact evRet rfl
  | m + 1, i, acc, hm, ha => by
    have hlt : i < nodes.length := by omega
    have hmem := List.getElem_mem hlt
    apply evSucc
    simp only [impl_KeysIn.l0]
    rw [show rd_T58 nodes (i : Int) = nodes[i] by unfold rd_T58; rw [Int.toNat_natCast, Lb.getD_at hlt], List.drop_eq_getElem_cons hlt, List.flatMap_cons, ← List.append_assoc]
    refine evIte (fun _ => evIte (fun _ => evIte (fun _ => ?_) (fun h => absurd (by omega) h)) (fun h => absurd (by omega) h)) (fun h => absurd (by omega) h)
    refine implKeys1 (hk _ hmem) _ 0 acc (Nat.add_zero _) (by omega) ?_
    rw [List.drop_zero, w64n (by omega)]
    have hle : (fN lo hi nodes[i]).length ≤ 3 := Nat.le_trans (List.length_filter_le _ _) (hk _ hmem)
    exact implKeys0 hn hk m (i + 1) (acc ++ fN lo hi nodes[i]) (by omega) (by rw [List.length_append]; omega)
theorem sortI_eq {l p : List Int} (h : p.Perm l) (hp : p.Pairwise (· < ·)) : sortI l = p := by
  unfold sortI
  have h1 : (l.mergeSort fun x y => decide (x ≤ y)).Pairwise (fun a b => decide (a ≤ b) = true) := List.pairwise_mergeSort (fun a b c h1 h2 => by simp at h1 h2 ⊢; omega) (fun a b => by simp; omega) l
  exact List.Perm.eq_of_pairwise (le := (· ≤ ·)) (fun a b _ _ h1 h2 => by omega) (h1.imp (fun h => by simpa using h)) (hp.imp (fun h => by omega)) ((List.mergeSort_perm _ _).trans h.symm)
theorem keys_eq {lo hi : Int} {nodes : List S58} {p : List Int} (h : p.Perm (nodes.flatMap lkN)) (hp : p.Pairwise (· < ·)) : sortI (nodes.flatMap (fN lo hi)) = p.filter (inL lo hi) := by
  refine sortI_eq ?_ (hp.filter _)
  have he : nodes.flatMap (fN lo hi) = (nodes.flatMap lkN).filter (inL lo hi) := by
    rw [List.filter_flatMap]
    congr 1
    funext n
    unfold fN lkN
    cases n.f0 <;> simp
  rw [he]
  exact h.filter _
theorem leaf_len {nodes : List S58} (hk : ∀ n ∈ nodes, n.f1.length ≤ 3) : (nodes.flatMap lkN).length ≤ 3 * nodes.length := by
  induction nodes with
  | nil => simp
  | cons n ns ih =>
    have := hk n (by simp)
    have := ih (fun x hx => hk x (by simp [hx]))
    have hl : (lkN n).length ≤ n.f1.length := by unfold lkN; split <;> simp
    rw [List.flatMap_cons, List.length_append, List.length_cons]
    omega
theorem keysBoth (a : Int) (l : List S58) (lo hi : Int) : ∃ r : Int × List Int, Ev (fun k => spec_KeysIn.f k a l lo hi) r ∧ Ev (fun k => impl_KeysIn.f k a l lo hi) r ∧ r.2.length ≤ 1000 := by
  unfold spec_KeysIn.f impl_KeysIn.f spec_TreeFault.f impl_TreeFault.f
  simp only [Option.bind_some]
  by_cases ht : treeF a l = 0
  · obtain ⟨n1, n2, hlen, hkid, h3, h4, _⟩ := treeF_ok ht
    obtain ⟨p, hp, hpm, hps⟩ := tree_all ht
    have hk : ∀ n ∈ l, n.f1.length ≤ 3 := fun n hn => (hlen n hn).1
    have hpl : p.length ≤ 180 := by have := leaf_len hk; rw [hpm.length_eq]; omega
    have hall : spec_l4All.f a l a = some p := by
      unfold spec_l4All.f
      rw [if_pos ⟨ht, h3, h4⟩, hp, Option.bind_some, if_pos (by omega)]
    have e1 := specKeys (lo := lo) (hi := hi) (p := p) (by omega) p.length 0 [] (by omega) (by simp)
    have e2 := implKeys0 (lo := lo) (hi := hi) n2 hk l.length 0 [] (by omega) (by simp)
    rw [List.drop_zero, List.nil_append] at e1 e2
    rw [keys_eq hpm hps] at e2
    refine ⟨(0, p.filter (inL lo hi)), ?_, ?_, by have := List.length_filter_le (inL lo hi) p; show (p.filter (inL lo hi)).length ≤ 1000; omega⟩
    · rw [hall]
      refine evIte (fun _ => ?_) (fun h => absurd ht h)
      exact e1
    · exact evIte (fun _ => e2) (fun h => absurd ht h)
  · exact ⟨(treeF a l, []), evIte (fun h => absurd h ht) (fun _ => evRet rfl), evIte (fun h => absurd h ht) (fun _ => evRet rfl), by simp⟩
end Go.Proofs.Ytdhdgkonghefeaa.Q
