/- The way to a key: the printed function goes as pathW. -/
import Derived.Test.YtdhdgkonghefeaaLb
import Derived.Test.YtdhdgkonghefeaaQf
import Derived.Test.YtdhdgkonghefeaaQnx
import Derived.Test.YtdhdgkonghefeaaQtr
import Derived.Test.YtdhdgkonghefeaaP0
import Derived.Test.YtdhdgkonghefeaaPCall3
import Derived.Test.YtdhdgkonghefeaaPCbcdf0
import Derived.Test.YtdhdgkonghefeaaPDm0
namespace Go.Proofs.Ytdhdgkonghefeaa.Q
open Go.RowKit Go.Proofs.Ytdhdgkonghefeaa.P Go.Proofs.YtdhdgkonghefeaaW.PrintWords Go.Proofs.YtdhdgkonghefeaaW.PrintLast Go.Proofs.YtdhdgkonghefeaaW.PrintMore Go.Proofs.Ytdhdgkonghefeaa.Lb
set_option linter.unusedVariables false
set_option linter.unusedSimpArgs false
theorem path_l1 {key root : Int} {nodes : List S58} {acc r : List Int} {lf : Bool} {ks ds : List Int} (hk : ks.length ≤ 3) (hd : ds.length = ks.length + 1) : ∀ m i, m + i = ks.length → Ev (fun k => impl_Tree_path.l0 k key acc (ds.getD (i + kidAt (ks.drop i) key) 0) root nodes) r → Ev (fun k => impl_Tree_path.l1 k key acc (i : Int) root nodes lf ks ds) r
  | 0, i, hm, h => by
    rw [kid_end (by omega), Nat.add_zero] at h
    apply evSucc
    simp only [impl_Tree_path.l1]
    refine evIte (fun hh => absurd hh (by omega)) (fun _ => evIte (fun _ => evIte (fun _ => ?_) (fun hh => absurd (by omega) hh)) (fun hh => absurd (by omega) hh))
    rw [show rd ds (i : Int) = ds.getD i 0 by unfold rd; rw [Int.toNat_natCast]]
    exact h
  | m + 1, i, hm, h => by
    have hlt : i < ks.length := by omega
    apply evSucc
    simp only [impl_Tree_path.l1]
    rw [show rd ks (i : Int) = ks.getD i 0 by unfold rd; rw [Int.toNat_natCast], show rd ds (i : Int) = ds.getD i 0 by unfold rd; rw [Int.toNat_natCast]]
    refine evIte (fun _ => evIte (fun _ => evIte (fun hx => ?_) (fun hx => ?_)) (fun hh => absurd (by omega) hh)) (fun hh => absurd (by omega) hh)
    · rw [w64n (by omega)]
      refine path_l1 hk hd m (i + 1) (by omega) ?_
      rw [kid_step hlt hx] at h
      rwa [show i + (1 + kidAt (ks.drop (i + 1)) key) = i + 1 + kidAt (ks.drop (i + 1)) key by omega] at h
    · rw [kid_stop hlt hx, Nat.add_zero] at h
      exact evIte (fun _ => h) (fun hh => absurd (by omega) hh)
theorem path_l0 {key root : Int} {nodes : List S58} (hlen : ∀ n ∈ nodes, n.f1.length ≤ 3 ∧ n.f2.length ≤ 4 ∧ (n.f0 = false → n.f2.length = n.f1.length + 1)) (hkid : kidsOk nodes) : ∀ (K : Nat) (at_ : Int) (q acc : List Int), 0 ≤ at_ → at_ < (nodes.length : Int) → acc.length + K ≤ 1000 → pathW nodes key K at_ = some q → Ev (fun k => impl_Tree_path.l0 k key acc at_ root nodes) (acc ++ q)
  | 0, at_, q, acc, h0, h1, hl, hp => by cases hp
  | K + 1, at_, q, acc, h0, h1, hl, hp => by
    have hm := getD_mem h0 h1
    unfold pathW at hp
    apply evSucc
    simp only [impl_Tree_path.l0, Option.bind_some]
    rw [show rd_T58 nodes at_ = nodes.getD at_.toNat z58 from rfl]
    refine evIte (fun _ => evIte (fun _ => evIte (fun _ => evIte (fun hf => ?_) (fun hf => ?_)) (fun hh => absurd h1 hh)) (fun hh => absurd h0 hh)) (fun hh => absurd (by omega) hh)
    · rw [if_pos hf] at hp; cases hp; exact evRet rfl
    · rw [if_neg hf] at hp
      obtain ⟨q2, hq2, rfl⟩ := Option.map_eq_some_iff.1 hp
      obtain ⟨h3, h4, h5⟩ := hlen _ hm
      have h6 := h5 (by simpa using hf)
      have hle := kidAt_le (nodes.getD at_.toNat z58).f1 key
      have hkk := hkid _ hm _ (kid_mem (n := nodes.getD at_.toNat z58) (i := kidAt (nodes.getD at_.toNat z58).f1 key) (by omega))
      have hrec := path_l0 (root := root) hlen hkid K _ q2 (acc ++ [at_]) hkk.1 hkk.2 (by simp only [List.length_append, List.length_singleton]; omega) hq2
      rw [List.append_assoc, List.singleton_append] at hrec
      exact path_l1 h3 h6 _ 0 (Nat.add_zero _) (by rw [Nat.zero_add, List.drop_zero]; exact hrec)
theorem path_f {key root : Int} {nodes : List S58} (ht : treeF root nodes = 0) : ∃ p, pathW nodes key 61 root = some p ∧ p.length ≤ 61 ∧ Ev (fun k => impl_Tree_path.f k root nodes key) p := by
  obtain ⟨h1, h2, hlen, hkid, h3, h4, hp⟩ := treeF_ok ht
  obtain ⟨p, hp⟩ := hp key
  refine ⟨p, hp, (pathW_mem (fun n hn => (hlen n hn).2.2) hkid key 61 root p h3 h4 hp).2.1, ?_⟩
  unfold impl_Tree_path.f
  exact path_l0 hlen hkid 61 root p [] h3 h4 (by simp) hp
end Go.Proofs.Ytdhdgkonghefeaa.Q
