/- The text of an engine. -/
import Derived.Test.YtldlnafakfigeaaDoorLb
import Derived.Test.YtldlnafakfigeaaDoorQf
import Derived.Test.YtldlnafakfigeaaDoorQce
import Derived.Test.YtldlnafakfigeaaDoorQnx
import Derived.Test.YtldlnafakfigeaaDoorQen
import Derived.Test.YtldlnafakfigeaaDoorP0
import Derived.Test.YtldlnafakfigeaaDoorPDall0
namespace Go.Proofs.YtldlnafakfigeaaDoor.Q
open Go.RowKit Go.Proofs.YtldlnafakfigeaaDoor.P Go.Proofs.YtldlnafakfigeaaDoorW.PrintWords Go.Proofs.YtldlnafakfigeaaDoorW.PrintLast Go.Proofs.YtldlnafakfigeaaDoorW.PrintMore Go.Proofs.YtldlnafakfigeaaDoor.Lb
set_option linter.unusedVariables false
set_option linter.unusedSimpArgs false
def bs (l : List UInt8) : ByteArray := ⟨l.toArray⟩
theorem bs_app (a b : List UInt8) : bs a ++ bs b = bs (a ++ b) := by
  apply ByteArray.ext
  rw [ByteArray.data_append]
  simp [bs]
theorem bs_size (l : List UInt8) : (bs l).size = l.length := by simp [bs, ByteArray.size]
theorem bs_list (l : List UInt8) : (bs l).data.toList = l := by simp [bs]
theorem lit10 : (⟨#[10]⟩ : ByteArray) = bs [10] := rfl
theorem lit32 : (⟨#[32]⟩ : ByteArray) = bs [32] := rfl
theorem lit58 : (⟨#[58]⟩ : ByteArray) = bs [58] := rfl
theorem lit45 : (⟨#[45]⟩ : ByteArray) = bs [45] := rfl
theorem lit61 : (⟨#[61]⟩ : ByteArray) = bs [61] := rfl
theorem litRow : (⟨#[114, 111, 119, 32]⟩ : ByteArray) = bs [114, 111, 119, 32] := rfl
theorem litClock : (⟨#[99, 108, 111, 99, 107]⟩ : ByteArray) = bs [99, 108, 111, 99, 107] := rfl
theorem litTxn : (⟨#[116, 120, 110]⟩ : ByteArray) = bs [116, 120, 110] := rfl
def NUM (n : Int) : Prop := 0 ≤ n ∧ n ≤ 1000000
def dg (n : Int) : List UInt8 := Lib.decDigits n.toNat
theorem dg_itoa {n : Int} (h : NUM n) : Lib.itoa n = dg n := by
  unfold Lib.itoa dg
  rw [if_neg (by have := h.1; omega)]
theorem dd_len : ∀ (k n : Nat), n < 10 ^ (k + 1) → (Lib.decDigits n).length ≤ k + 1
  | k, n, h => by
    rw [Lib.decDigits]
    by_cases h10 : n < 10
    · rw [dif_pos h10]; simp
    · rw [dif_neg h10, List.length_append, List.length_singleton]
      cases k with
      | zero => simp at h; omega
      | succ k =>
        have := dd_len k (n / 10) (by rw [Nat.div_lt_iff_lt_mul (by omega)]; rw [Nat.pow_succ] at h; exact h)
        omega
theorem dg_len {n : Int} (h : NUM n) : (dg n).length ≤ 21 := dd_len 20 n.toNat (Nat.lt_of_le_of_lt (show n.toNat ≤ 1000000 by have := h.2; omega) (by decide))
theorem decEq {n : Int} (h : NUM n) : impl_dec.f n = some (bs (dg n)) := by
  unfold impl_dec.f
  rw [if_pos ⟨by have := h.1; omega, by have := h.2; omega⟩, dg_itoa h]
  rfl
theorem specDig : ∀ (N n : Nat), n < N → n ≤ 1000000 → Ev (fun k => spec_l7Digits.f k (n : Int)) (bs (Lib.decDigits n))
  | 0, n, h, _ => absurd h (by omega)
  | N + 1, n, h, hn => by
    refine evSucc ?_
    simp only [spec_l7Digits.f]
    by_cases h10 : n < 10
    · refine evIte (fun _ => evRet ?_) (fun h2 => absurd (by omega) h2)
      rw [Lib.decDigits, dif_pos h10, show wrap64 (48 + (n : Int)) = 48 + (n : Int) from Lb.w64 (by omega) (by omega), show (48 + (n : Int)) % 256 = ((48 + n : Nat) : Int) from by omega]
      rfl
    · refine evIte (fun h2 => absurd h2 (by omega)) (fun _ => ?_)
      have e1 : wrap64 (Int.tdiv (n : Int) 10) = ((n / 10 : Nat) : Int) := by
        rw [show Int.tdiv (n : Int) 10 = ((n / 10 : Nat) : Int) from by rw [Int.tdiv_eq_ediv_of_nonneg (by omega)]; omega]
        exact Lb.w64 (by omega) (by omega)
      have e2 : wrap64 (48 + Int.tmod (n : Int) 10) % 256 = ((48 + n % 10 : Nat) : Int) := by
        rw [Int.tmod_eq_emod_of_nonneg (by omega), Lb.w64 (by omega) (by omega)]
        omega
      simp only [e1, e2]
      refine evCall (specDig N (n / 10) (by omega) (by omega)) (evSeq rfl ?_)
      have e3 : strOfNums [((48 + n % 10 : Nat) : Int)] = bs [UInt8.ofNat (48 + n % 10)] := rfl
      have hl : (Lib.decDigits (n / 10)).length ≤ 21 := by
        have := dg_len (n := ((n / 10 : Nat) : Int)) ⟨by omega, by omega⟩
        unfold dg at this
        rwa [Int.toNat_natCast] at this
      rw [e3, bs_size, bs_size, bs_app, if_pos (by simp only [List.length_singleton]; omega)]
      refine evRet ?_
      rw [Lib.decDigits.eq_1 n, dif_neg h10]
theorem digEv {n : Int} (h : NUM n) : Ev (fun k => spec_l7Digits.f k n) (bs (dg n)) := by
  have := specDig (n.toNat + 1) n.toNat (by omega) (by have := h.2; omega)
  rwa [Int.toNat_of_nonneg h.1] at this
theorem flen {α : Type} (f : α → List UInt8) (B : Nat) : ∀ (l : List α), (∀ x ∈ l, (f x).length ≤ B) → (l.flatMap f).length ≤ B * l.length
  | [], _ => by simp
  | x :: xs, h => by
    rw [List.flatMap_cons, List.length_append, List.length_cons, Nat.mul_succ]
    have h1 := h x (by simp)
    have h2 := flen f B xs (fun y hy => h y (by simp [hy]))
    omega
theorem flat_step {α : Type} (f : α → List UInt8) (l : List α) (i : Nat) (h : i < l.length) : (l.take (i + 1)).flatMap f = (l.take i).flatMap f ++ f l[i] := by
  rw [List.take_succ_eq_append_getElem h, List.flatMap_append]
  simp
def sp (d : List UInt8) : List UInt8 := 32 :: d
def lineT (w : List UInt8) (ns : List Int) : List UInt8 := w ++ ns.flatMap fun n => sp (dg n)
theorem lineT_len (w : List UInt8) (ns : List Int) (h : ∀ n ∈ ns, NUM n) : (lineT w ns).length ≤ w.length + 22 * ns.length := by
  unfold lineT
  rw [List.length_append]
  have := flen (fun n => sp (dg n)) 22 ns (fun n hn => by have := dg_len (h n hn); simp only [sp, List.length_cons]; omega)
  omega
theorem specLine (w : List UInt8) (ns : List Int) (hw : w.length ≤ 100) (hn : ns.length ≤ 10) (h : ∀ n ∈ ns, NUM n) : Ev (fun k => spec_l7Line.f k (bs w) ns) (bs (lineT w ns ++ [10])) := by
  unfold spec_l7Line.f
  have := placesEv (L := fun k i => spec_l7Line.l0 k (bs (lineT w (ns.take i))) ns (i : Int)) (r := bs (lineT w ns ++ [10])) ns.length ?_ ?_ ns.length 0 (by omega) (by omega)
  · simpa [lineT] using this
  · intro i hi
    have hm : ∀ n ∈ ns.take i, NUM n := fun n hn => h n (List.mem_of_mem_take hn)
    have hx := h _ (List.getElem_mem hi)
    obtain ⟨K, hK⟩ := digEv hx
    refine ⟨K, fun k hk => ?_⟩
    have hk' := hK k hk
    have l1 := lineT_len w (ns.take i) hm
    have l2 := dg_len hx
    have l3 : (ns.take i).length ≤ 10 := by simp; omega
    have e : lineT w (ns.take i) ++ [32] ++ dg ns[i] = lineT w (ns.take (i + 1)) := by unfold lineT; rw [flat_step _ ns i hi]; simp [sp]
    show spec_l7Line.l0 (k + 1) _ _ _ = spec_l7Line.l0 k _ _ _
    simp only [spec_l7Line.l0, show (i : Int) < (ns.length : Int) by omega, if_true, Int.natCast_nonneg, rdI hi, hk', Option.bind_some, lit32, bs_app, bs_size, w64n (show i < 9223372036854775807 by omega)]
    rw [if_pos (by omega), if_pos (by simp only [List.length_append, List.length_singleton]; omega), e]
  · refine evSucc ?_
    simp only [spec_l7Line.l0, Int.lt_irrefl, if_false, List.take_length, lit10, bs_app, bs_size]
    rw [if_pos (by have := lineT_len w ns h; omega)]
    exact evRet rfl
theorem joinTail_eq : ∀ ds : List (List UInt8), Lib.joinTail [32] ds = ds.flatMap sp
  | [] => rfl
  | d :: r => by
    have := joinTail_eq r
    unfold Lib.joinTail at this ⊢
    rw [List.map_cons, List.flatten_cons, this, List.flatMap_cons]
    rfl
theorem joinEq (w : List UInt8) (ds : List (List UInt8)) (h : (w ++ ds.flatMap sp).length ≤ 1000000) (hc : ds.length ≤ 1000000) : impl_joined.f ((w :: ds).map bs) = some (bs (w ++ ds.flatMap sp)) := by
  unfold impl_joined.f
  have e : ((w :: ds).map bs).map (·.data.toList) = w :: ds := by
    rw [List.map_map]
    have : ((fun x : ByteArray => x.data.toList) ∘ bs) = id := by funext l; exact bs_list l
    rw [this, List.map_id]
  rw [e, Lib.join_cons, joinTail_eq, if_pos ⟨by simp, by omega, by simp; omega⟩]
  rfl
/-- What is right of numbers. -/
def okT (t : S45) : Prop := NUM t.f0 ∧ NUM t.f1 ∧ NUM t.f2 ∧ NUM t.f3 ∧ NUM (t.f4.length : Int)
def okW (v : S51) : Prop := NUM v.f0 ∧ NUM v.f1 ∧ NUM v.f3
def okR (r : S49) : Prop := NUM r.f0 ∧ r.f1.length ≤ 12 ∧ ∀ v ∈ r.f1, okW v
def txnN (t : S45) : List Int := [t.f0, t.f1, t.f2, t.f3, (t.f4.length : Int)]
def txnT (t : S45) : List UInt8 := lineT [116, 120, 110] (txnN t) ++ [10]
def ownT (v : S51) : List UInt8 := dg v.f0 ++ [58] ++ dg v.f1 ++ (if v.f2 = true then [45] else 61 :: dg v.f3)
def rowT (r : S49) : List UInt8 := [114, 111, 119, 32] ++ dg r.f0 ++ r.f1.flatMap (fun v => sp (ownT v)) ++ [10]
def headT (a b : Int) : List UInt8 := lineT [99, 108, 111, 99, 107] [b, a] ++ [10]
def textT (a b : Int) (l : List S45) (m : List S49) : List UInt8 := headT a b ++ l.flatMap txnT ++ m.flatMap rowT
theorem okN {t : S45} (h : okT t) : ∀ n ∈ txnN t, NUM n := by
  intro n hn
  obtain ⟨h0, h1, h2, h3, h4⟩ := h
  simp only [txnN, List.mem_cons, List.not_mem_nil, or_false] at hn
  rcases hn with rfl | rfl | rfl | rfl | rfl <;> assumption
theorem txnT_len {t : S45} (h : okT t) : (txnT t).length ≤ 200 := by
  unfold txnT
  have := lineT_len [116, 120, 110] (txnN t) (okN h)
  rw [List.length_append]
  simp only [txnN, List.length_cons, List.length_nil] at this ⊢
  omega
theorem ownT_len {v : S51} (h : okW v) : (ownT v).length ≤ 66 := by
  unfold ownT
  have h0 := dg_len h.1
  have h1 := dg_len h.2.1
  have h3 := dg_len h.2.2
  simp only [List.length_append, List.length_singleton]
  split
  · simp only [List.length_singleton]; omega
  · simp only [List.length_cons]; omega
theorem vers_len {l : List S51} (h : ∀ v ∈ l, okW v) (hl : l.length ≤ 12) : (l.flatMap fun v => sp (ownT v)).length ≤ 804 := by
  have := flen (fun v => sp (ownT v)) 67 l (fun v hv => by have := ownT_len (h v hv); simp only [sp, List.length_cons]; omega)
  have h2 : 67 * l.length ≤ 67 * 12 := Nat.mul_le_mul_left _ hl
  omega
theorem rowT_len {r : S49} (h : okR r) : (rowT r).length ≤ 900 := by
  unfold rowT
  have h0 := dg_len h.1
  have h1 := vers_len h.2.2 h.2.1
  simp only [List.length_append, List.length_cons, List.length_nil]
  omega
theorem headT_len {a b : Int} (ha : NUM a) (hb : NUM b) : (headT a b).length ≤ 100 := by
  unfold headT
  have := lineT_len [99, 108, 111, 99, 107] [b, a] (by intro n hn; simp at hn; rcases hn with rfl | rfl <;> assumption)
  rw [List.length_append]
  simp only [List.length_cons, List.length_nil] at this ⊢
  omega
section
variable {a b : Int} {l : List S45} {m : List S49} (ha : NUM a) (hb : NUM b) (hl : l.length ≤ 20) (hm : m.length ≤ 32) (ht : ∀ t ∈ l, okT t) (hr : ∀ r ∈ m, okR r)
include ha hb hl ht
theorem acc_len (i : Nat) : (headT a b ++ (l.take i).flatMap txnT).length ≤ 4100 := by
  have h1 := headT_len ha hb
  have h2 := flen txnT 200 (l.take i) (fun t h => txnT_len (ht t (List.mem_of_mem_take h)))
  have h3 : (l.take i).length ≤ 20 := by simp; omega
  have h4 : 200 * (l.take i).length ≤ 200 * 20 := Nat.mul_le_mul_left _ h3
  rw [List.length_append]
  omega
include hm hr
theorem acc2_len (i : Nat) : (headT a b ++ l.flatMap txnT ++ (m.take i).flatMap rowT).length ≤ 33000 := by
  have h1 := acc_len ha hb hl ht l.length
  rw [List.take_length] at h1
  have h2 := flen rowT 900 (m.take i) (fun r h => rowT_len (hr r (List.mem_of_mem_take h)))
  have h3 : (m.take i).length ≤ 32 := by simp; omega
  have h4 : 900 * (m.take i).length ≤ 900 * 32 := Nat.mul_le_mul_left _ h3
  rw [List.length_append]
  omega
theorem specRow (i : Nat) (hi : i < m.length) (he : Ev (fun k => spec_TextOf.l1 k (bs (headT a b ++ l.flatMap txnT ++ (m.take (i + 1)).flatMap rowT)) ((i + 1 : Nat) : Int) a b l m) ((0 : Int), bs (textT a b l m))) :
    Ev (fun k => spec_TextOf.l2 k (bs (headT a b ++ l.flatMap txnT ++ (m.take i).flatMap rowT ++ [114, 111, 119, 32] ++ dg m[i].f0)) (i : Int) 0 a b l m) ((0 : Int), bs (textT a b l m)) := by
  have hR := hr _ (List.getElem_mem hi)
  have hA := acc2_len ha hb hl hm ht hr i
  have hD := dg_len hR.1
  have hV : ∀ j, ((m[i].f1.take j).flatMap fun v => sp (ownT v)).length ≤ 804 := fun j => vers_len (fun v hv => hR.2.2 v (List.mem_of_mem_take hv)) (by have := hR.2.1; simp; omega)
  have := placesEv (L := fun k j => spec_TextOf.l2 k (bs (headT a b ++ l.flatMap txnT ++ (m.take i).flatMap rowT ++ [114, 111, 119, 32] ++ dg m[i].f0 ++ (m[i].f1.take j).flatMap fun v => sp (ownT v))) (i : Int) (j : Int) a b l m) (r := ((0 : Int), bs (textT a b l m))) m[i].f1.length ?_ ?_ m[i].f1.length 0 (by omega) (by omega)
  · simpa using this
  · intro j hj
    have hv := hR.2.2 _ (List.getElem_mem hj)
    obtain ⟨K0, h0⟩ := digEv hv.1
    obtain ⟨K1, h1⟩ := digEv hv.2.1
    obtain ⟨K3, h3⟩ := digEv hv.2.2
    refine ⟨K0 + K1 + K3, fun k hk => ?_⟩
    have q0 := h0 k (by omega)
    have q1 := h1 k (by omega)
    have q3 := h3 k (by omega)
    have d0 := dg_len hv.1
    have d1 := dg_len hv.2.1
    have d3 := dg_len hv.2.2
    have hVj := hV j
    generalize hX : headT a b ++ l.flatMap txnT ++ (m.take i).flatMap rowT ++ [114, 111, 119, 32] ++ dg m[i].f0 = X
    have hXl : X.length ≤ 33100 := by rw [← hX]; simp only [List.length_append, List.length_cons, List.length_nil] at hA ⊢; omega
    have hs := flat_step (fun v => sp (ownT v)) m[i].f1 j hj
    show spec_TextOf.l2 (k + 1) _ _ _ _ _ _ _ = spec_TextOf.l2 k _ _ _ _ _ _ _
    have hb12 := hR.2.1
    simp only [spec_TextOf.l2, Int.natCast_nonneg, if_true, show (i : Int) < (m.length : Int) by omega, rdRow hi, show (j : Int) < (m[i].f1.length : Int) by omega, rdV hj, q0, q1, q3, Option.bind_some, lit32, lit58, lit45, lit61, bs_app, bs_size, w64n (show j < 9223372036854775807 by omega)]
    rw [if_pos (by simp only [List.length_append] at hVj ⊢; omega), if_pos (by simp only [List.length_append, List.length_singleton] at hVj ⊢; omega), if_pos (by simp only [List.length_append, List.length_singleton] at hVj ⊢; omega), if_pos (by simp only [List.length_append, List.length_singleton] at hVj ⊢; omega)]
    by_cases hg : m[i].f1[j].f2 = true
    · rw [if_pos hg, if_pos (by simp only [List.length_append, List.length_singleton] at hVj ⊢; omega), hs]
      have e : ownT m[i].f1[j] = dg m[i].f1[j].f0 ++ [58] ++ dg m[i].f1[j].f1 ++ [45] := by unfold ownT; rw [if_pos hg]
      rw [e]
      congr 1
      simp [sp]
    · rw [if_neg hg, if_pos (by simp only [List.length_append, List.length_singleton] at hVj ⊢; omega), if_pos (by simp only [List.length_append, List.length_singleton] at hVj ⊢; omega), hs]
      have e : ownT m[i].f1[j] = dg m[i].f1[j].f0 ++ [58] ++ dg m[i].f1[j].f1 ++ (61 :: dg m[i].f1[j].f3) := by unfold ownT; rw [if_neg hg]
      rw [e]
      congr 1
      simp [sp]
  · refine evSucc ?_
    have hV2 := hV m[i].f1.length
    have e : headT a b ++ l.flatMap txnT ++ (m.take i).flatMap rowT ++ [114, 111, 119, 32] ++ dg m[i].f0 ++ ((m[i].f1.take m[i].f1.length).flatMap fun v => sp (ownT v)) ++ [10] = headT a b ++ l.flatMap txnT ++ (m.take (i + 1)).flatMap rowT := by
      rw [flat_step rowT m i hi, List.take_length]
      unfold rowT
      simp
    simp only [spec_TextOf.l2, Int.natCast_nonneg, if_true, show (i : Int) < (m.length : Int) by omega, rdRow hi, Int.lt_irrefl, if_false, lit10, bs_app, bs_size, w64n (show i < 9223372036854775807 by omega)]
    rw [e]
    refine evIte (fun _ => he) (fun hno => absurd ?_ hno)
    simp only [List.length_append, List.length_cons, List.length_nil] at hA hV2 ⊢
    omega
theorem specRows : ∀ (d i : Nat), m.length - i = d → i ≤ m.length → Ev (fun k => spec_TextOf.l1 k (bs (headT a b ++ l.flatMap txnT ++ (m.take i).flatMap rowT)) (i : Int) a b l m) ((0 : Int), bs (textT a b l m))
  | 0, i, hd, hi => by
    obtain rfl : i = m.length := by omega
    refine evSucc ?_
    simp only [spec_TextOf.l1, Int.lt_irrefl, if_false, List.take_length]
    exact evRet rfl
  | d + 1, i, hd, hi => by
    have hlt : i < m.length := by omega
    have ih := specRows d (i + 1) (by omega) (by omega)
    have hA := acc2_len ha hb hl hm ht hr i
    have hR := hr _ (List.getElem_mem hlt)
    have hD := dg_len hR.1
    refine evSucc ?_
    simp only [spec_TextOf.l1, show (i : Int) < (m.length : Int) by omega, if_true, Int.natCast_nonneg, rdRow hlt]
    refine evIte (fun _ => ?_) (fun hno => absurd (by rw [bs_size]; omega) hno)
    refine evCall (digEv hR.1) ?_
    simp only [litRow, bs_app, bs_size]
    refine evIte (fun _ => ?_) (fun hno => absurd (by simp only [List.length_append, List.length_cons, List.length_nil] at hA ⊢; omega) hno)
    exact specRow ha hb hl hm ht hr i hlt ih
theorem specTxns : Ev (fun k => spec_TextOf.l0 k (bs (headT a b)) 0 a b l m) ((0 : Int), bs (textT a b l m)) := by
  have := placesEv (L := fun k i => spec_TextOf.l0 k (bs (headT a b ++ (l.take i).flatMap txnT)) (i : Int) a b l m) (r := ((0 : Int), bs (textT a b l m))) l.length ?_ ?_ l.length 0 (by omega) (by omega)
  · simpa using this
  · intro i hi
    have hT := ht _ (List.getElem_mem hi)
    obtain ⟨K, hK⟩ := specLine [116, 120, 110] (txnN l[i]) (by decide) (by simp [txnN]) (okN hT)
    refine ⟨K, fun k hk => ?_⟩
    have q := hK k hk
    have hA := acc_len ha hb hl ht i
    have hL := txnT_len hT
    unfold txnT at hL
    unfold txnN at q
    show spec_TextOf.l0 (k + 1) _ _ _ _ _ _ = spec_TextOf.l0 k _ _ _ _ _ _
    simp only [spec_TextOf.l0, show (i : Int) < (l.length : Int) by omega, if_true, Int.natCast_nonneg, rdTxn hi, litTxn, q, Option.bind_some, bs_app, bs_size, w64n (show i < 9223372036854775807 by omega)]
    rw [if_pos (by unfold txnN at hL; omega), flat_step txnT l i hi]
    congr 1
    unfold txnT txnN
    simp
  · refine evSucc ?_
    simp only [spec_TextOf.l0, Int.lt_irrefl, if_false, List.take_length]
    have := specRows ha hb hl hm ht hr m.length 0 (by omega) (by omega)
    simpa using this
theorem implRows : ∀ (d i : Nat), m.length - i = d → i ≤ m.length → Ev (fun k => impl_Engine_text.l1 k (bs (headT a b ++ l.flatMap txnT ++ (m.take i).flatMap rowT)) m (m.length : Int) (i : Int)) (bs (textT a b l m))
  | 0, i, hd, hi => by
    obtain rfl : i = m.length := by omega
    refine evSucc ?_
    simp only [impl_Engine_text.l1, Int.lt_irrefl, if_false, List.take_length]
    exact evRet rfl
  | d + 1, i, hd, hi => by
    have hlt : i < m.length := by omega
    have ih := implRows d (i + 1) (by omega) (by omega)
    have hA := acc2_len ha hb hl hm ht hr i
    have hR := hr _ (List.getElem_mem hlt)
    have hD := dg_len hR.1
    have hV : ∀ j, ((m[i].f1.take j).flatMap fun v => sp (ownT v)).length ≤ 804 := fun j => vers_len (fun v hv => hR.2.2 v (List.mem_of_mem_take hv)) (by have := hR.2.1; simp; omega)
    refine evSucc ?_
    simp only [impl_Engine_text.l1, show (i : Int) < (m.length : Int) by omega, if_true, Int.natCast_nonneg, rdRow hlt, decEq hR.1, Option.bind_some]
    have := placesEv (L := fun k j => impl_Engine_text.l2 k (bs (headT a b ++ l.flatMap txnT ++ (m.take i).flatMap rowT)) (([114, 111, 119] :: dg m[i].f0 :: (m[i].f1.take j).map ownT).map bs) m (m.length : Int) (i : Int) m[i].f1 (m[i].f1.length : Int) (j : Int)) (r := bs (textT a b l m)) m[i].f1.length ?_ ?_ m[i].f1.length 0 (by omega) (by omega)
    · exact this
    · intro j hj
      have hv := hR.2.2 _ (List.getElem_mem hj)
      refine ⟨0, fun k _ => ?_⟩
      have d0 := dg_len hv.1
      have d1 := dg_len hv.2.1
      have d3 := dg_len hv.2.2
      have hb12 := hR.2.1
      have hc : ((([114, 111, 119] : List UInt8) :: dg m[i].f0 :: (m[i].f1.take j).map ownT).map bs).length < 8796093022208 := by simp; omega
      have hs : (([114, 111, 119] : List UInt8) :: dg m[i].f0 :: (m[i].f1.take (j + 1)).map ownT).map bs = (([114, 111, 119] : List UInt8) :: dg m[i].f0 :: (m[i].f1.take j).map ownT).map bs ++ [bs (ownT m[i].f1[j])] := by
        rw [List.take_succ_eq_append_getElem hj]
        simp only [List.map_cons, List.map_append, List.cons_append, List.map_nil]
      show impl_Engine_text.l2 (k + 1) _ _ _ _ _ _ _ _ = impl_Engine_text.l2 k _ _ _ _ _ _ _ _
      generalize ((([114, 111, 119] : List UInt8) :: dg m[i].f0 :: (m[i].f1.take j).map ownT).map bs) = X at hc hs ⊢
      simp only [impl_Engine_text.l2, Int.natCast_nonneg, if_true, show (j : Int) < (m[i].f1.length : Int) by omega, rdV hj, decEq hv.1, decEq hv.2.1, decEq hv.2.2, Option.bind_some, lit58, lit45, lit61, bs_app, bs_size, w64n (show j < 9223372036854775807 by omega), hc]
      rw [if_pos (by omega), if_pos (by simp only [List.length_append, List.length_singleton]; omega), hs]
      by_cases hg : m[i].f1[j].f2 = true
      · rw [if_pos hg, if_pos (by simp only [List.length_append, List.length_singleton]; omega)]
        have e : ownT m[i].f1[j] = dg m[i].f1[j].f0 ++ [58] ++ dg m[i].f1[j].f1 ++ [45] := by unfold ownT; rw [if_pos hg]
        rw [e]
      · rw [if_neg hg, if_pos (by first | omega | (simp only [List.length_singleton]; omega)), if_pos (by simp only [List.length_append, List.length_singleton]; omega)]
        have e : ownT m[i].f1[j] = dg m[i].f1[j].f0 ++ [58] ++ dg m[i].f1[j].f1 ++ ([61] ++ dg m[i].f1[j].f3) := by unfold ownT; rw [if_neg hg]; rfl
        rw [e]
    · refine evSucc ?_
      have hV2 := hV m[i].f1.length
      rw [List.take_length] at hV2
      have em : ((m[i].f1.map ownT).flatMap sp) = m[i].f1.flatMap fun v => sp (ownT v) := by rw [List.flatMap_map]
      have hj := joinEq [114, 111, 119] (dg m[i].f0 :: m[i].f1.map ownT) (by rw [List.flatMap_cons, em]; have hsp : (sp (dg m[i].f0)).length = (dg m[i].f0).length + 1 := rfl; simp only [List.length_append, List.length_cons, List.length_nil]; omega) (by have := hR.2.1; simp; omega)
      have e : [114, 111, 119] ++ (dg m[i].f0 :: m[i].f1.map ownT).flatMap sp ++ [10] = rowT m[i] := by
        rw [List.flatMap_cons, em]
        unfold rowT
        simp [sp]
      simp only [impl_Engine_text.l2, Int.lt_irrefl, if_false, List.take_length, hj, Option.bind_some, lit10, bs_app, bs_size, e, w64n (show i < 9223372036854775807 by omega)]
      have hrl := rowT_len hR
      have hel := congrArg List.length e
      rw [List.length_append] at hel
      simp only [List.length_singleton] at hel
      refine evIte (fun _ => ?_) (fun hno => absurd (by omega) hno)
      refine evIte (fun _ => ?_) (fun hno => absurd (by omega) hno)
      rw [List.append_assoc, ← flat_step rowT m i hlt]
      exact ih
theorem implTxns : Ev (fun k => impl_Engine_text.l0 k (bs (headT a b)) l (l.length : Int) 0 a b l m) (bs (textT a b l m)) := by
  have := placesEv (L := fun k i => impl_Engine_text.l0 k (bs (headT a b ++ (l.take i).flatMap txnT)) l (l.length : Int) (i : Int) a b l m) (r := bs (textT a b l m)) l.length ?_ ?_ l.length 0 (by omega) (by omega)
  · simpa using this
  · intro i hi
    have hT := ht _ (List.getElem_mem hi)
    refine ⟨0, fun k _ => ?_⟩
    have hA := acc_len ha hb hl ht i
    have hL := txnT_len hT
    have hj := joinEq [116, 120, 110] [dg l[i].f0, dg l[i].f1, dg l[i].f2, dg l[i].f3, dg (l[i].f4.length : Int)] (by
      have h0 := dg_len hT.1; have h1 := dg_len hT.2.1; have h2 := dg_len hT.2.2.1; have h3 := dg_len hT.2.2.2.1; have h4 := dg_len hT.2.2.2.2
      simp [sp]; omega) (by simp)
    have e : [116, 120, 110] ++ [dg l[i].f0, dg l[i].f1, dg l[i].f2, dg l[i].f3, dg (l[i].f4.length : Int)].flatMap sp ++ [10] = txnT l[i] := by
      unfold txnT lineT txnN
      simp
    have hj2 : impl_joined.f [bs [116, 120, 110], bs (dg l[i].f0), bs (dg l[i].f1), bs (dg l[i].f2), bs (dg l[i].f3), bs (dg (l[i].f4.length : Int))] = some (bs ([116, 120, 110] ++ [dg l[i].f0, dg l[i].f1, dg l[i].f2, dg l[i].f3, dg (l[i].f4.length : Int)].flatMap sp)) := hj
    have hel := congrArg List.length e
    rw [List.length_append] at hel
    simp only [List.length_singleton] at hel
    show impl_Engine_text.l0 (k + 1) _ _ _ _ _ _ _ _ = impl_Engine_text.l0 k _ _ _ _ _ _ _ _
    simp only [impl_Engine_text.l0, show (i : Int) < (l.length : Int) by omega, if_true, Int.natCast_nonneg, rdTxn hi, decEq hT.1, decEq hT.2.1, decEq hT.2.2.1, decEq hT.2.2.2.1, decEq hT.2.2.2.2, Option.bind_some, litTxn, hj2, lit10, bs_app, bs_size, e, w64n (show i < 9223372036854775807 by omega)]
    rw [if_pos (by omega), if_pos (by omega), List.append_assoc, ← flat_step txnT l i hi]
  · refine evSucc ?_
    simp only [impl_Engine_text.l0, Int.lt_irrefl, if_false, List.take_length]
    have := implRows ha hb hl hm ht hr m.length 0 (by omega) (by omega)
    simpa using this
end
theorem cfL_okW : ∀ (l : List S51) (p : Option S51), cfL p l = 0 → ∀ x ∈ l, okV x
  | [], _, _, x, hx => by simp at hx
  | v :: vs, p, h, x, hx => by
    unfold cfL at h
    by_cases h1 : okV v
    · by_cases h2 : badV p v
      · rw [if_pos h1, if_pos h2] at h; exact absurd h (by decide)
      · rw [if_pos h1, if_neg h2] at h
        rcases List.mem_cons.1 hx with rfl | hx
        · exact h1
        · exact cfL_okW vs _ h x hx
    · rw [if_neg h1] at h; exact absurd h (by decide)
theorem rows_ok {ck : Int} {txns : List S45} {rows : List S49} (hR : RwOK rows) : ∀ r ∈ rows, okR r := by
  intro r hr
  obtain ⟨i, hi, rfl⟩ := List.getElem_of_mem hr
  have hk := hR.key i hi
  have hc := hR.ch i hi
  rw [getD_at hi] at hk hc
  unfold cf at hc
  by_cases h12 : 12 < rows[i].f1.length
  · rw [if_pos h12] at hc; exact absurd hc (by decide)
  · rw [if_neg h12] at hc
    refine ⟨⟨hk.1, by have := hk.2; omega⟩, by omega, fun v hv => ?_⟩
    obtain ⟨h1, h2, h3, h4, h5, h6⟩ := cfL_okW _ _ hc v hv
    exact ⟨⟨by omega, by omega⟩, ⟨h3, h4⟩, ⟨h5, by omega⟩⟩
theorem txns_ok {nx ck : Int} {txns : List S45} (hn : nx ≤ 999) (hc : ck ≤ 1000000) (h : txnsF nx ck txns = 0) : ∀ t ∈ txns, okT t := by
  intro t htm
  obtain ⟨i, hi, rfl⟩ := List.getElem_of_mem htm
  have hz := scan_zero _ _ h i (by omega) (by omega)
  simp only [txnF, getD_at hi] at hz
  by_cases h1 : (inB txns[i].f0 1 (nx - 1) && (inB txns[i].f1 0 ck && (inB txns[i].f2 1 3 && inB txns[i].f3 0 ck))) = true
  · rw [if_pos h1] at hz
    split at hz
    · exact absurd hz (by decide)
    · have hu : txns[i].f4.length ≤ 60 := by
        unfold undosF at hz
        by_cases h2 : txns[i].f4.length > 60
        · rw [if_pos h2] at hz; exact absurd hz (by decide)
        · omega
      simp only [inB, Bool.and_eq_true, decide_eq_true_eq] at h1
      obtain ⟨⟨a1, a2⟩, ⟨b1, b2⟩, ⟨c1, c2⟩, d1, d2⟩ := h1
      exact ⟨⟨by omega, by omega⟩, ⟨by omega, by omega⟩, ⟨by omega, by omega⟩, ⟨by omega, by omega⟩, ⟨by omega, by omega⟩⟩
  · rw [if_neg h1] at hz; exact absurd hz (by decide)
theorem fault_txns {nx ck : Int} {txns : List S45} {rows : List S49} (h : faultF cf nx ck txns rows = 0) : txnsF nx ck txns = 0 := by
  unfold faultF at h
  split at h
  · split at h
    · split at h
      · exact absurd h (by decide)
      · split at h
        · assumption
        · exact absurd h ‹_›
    · exact absurd h (by decide)
  · exact absurd h (by decide)
def textOf (a b : Int) (l : List S45) (m : List S49) : Int × ByteArray := if faultF cf a b l m = 0 then (0, bs (textT a b l m)) else (faultF cf a b l m, bs [])
theorem specText (a b : Int) (l : List S45) (m : List S49) (hr : ∀ r ∈ m, r.f1.length ≤ 1048576) : Ev (fun k => spec_TextOf.f k a b l m) (textOf a b l m) := by
  unfold spec_TextOf.f textOf
  refine evCall (specFault a b l m (fun r h => by have := hr r h; omega)) (evIte (fun h => ?_) (fun h => evRet (by rw [if_neg h]; rfl)))
  rw [if_pos h]
  obtain ⟨hx, hc, hl, hm, hT, hR⟩ := fault_ok h
  have ha : NUM a := ⟨by omega, by omega⟩
  have hb : NUM b := ⟨by omega, by omega⟩
  have hok := txns_ok hx.2 hc.2 (fault_txns h)
  have hrk := rows_ok (ck := b) (txns := l) hR
  have := specLine [99, 108, 111, 99, 107] [b, a] (by decide) (by simp) (by intro n hn; simp at hn; rcases hn with rfl | rfl <;> assumption)
  exact evCall this (specTxns ha hb hl hm hok hrk)
theorem implText (a b : Int) (l : List S45) (m : List S49) (ht : ∀ t ∈ l, t.f4.length ≤ 1048576) (hr : ∀ r ∈ m, r.f1.length ≤ 1048576) : Ev (fun k => impl_TextOf.f k a b l m) (textOf a b l m) := by
  unfold impl_TextOf.f textOf
  refine evCall (implEF a b l m ht hr) (evIte (fun h => ?_) (fun h => evRet (by rw [if_neg h]; rfl)))
  rw [if_pos h]
  obtain ⟨hx, hc, hl, hm, hT, hR⟩ := fault_ok h
  have ha : NUM a := ⟨by omega, by omega⟩
  have hb : NUM b := ⟨by omega, by omega⟩
  have hok := txns_ok hx.2 hc.2 (fault_txns h)
  have hrk := rows_ok (ck := b) (txns := l) hR
  refine evCall (a := bs (textT a b l m)) ?_ (evRet rfl)
  unfold impl_Engine_text.f
  have hj := joinEq [99, 108, 111, 99, 107] [dg b, dg a] (by have h0 := dg_len ha; have h1 := dg_len hb; simp [sp]; omega) (by simp)
  have hj2 : impl_joined.f [bs [99, 108, 111, 99, 107], bs (dg b), bs (dg a)] = some (bs ([99, 108, 111, 99, 107] ++ [dg b, dg a].flatMap sp)) := hj
  have e : [99, 108, 111, 99, 107] ++ [dg b, dg a].flatMap sp ++ [10] = headT a b := by
    unfold headT lineT
    simp
  have hel := congrArg List.length e
  rw [List.length_append] at hel
  simp only [List.length_singleton] at hel
  have hh := headT_len ha hb
  simp only [decEq ha, decEq hb, Option.bind_some, litClock, hj2, lit10, bs_app, bs_size, e]
  refine evIte (fun _ => ?_) (fun hno => absurd (by omega) hno)
  exact implTxns ha hb hl hm hok hrk
end Go.Proofs.YtldlnafakfigeaaDoor.Q
