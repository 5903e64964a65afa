/- Rows of elements of several cells, told by their cells; 'copy' and 'overlaps' at them (for slices.Insert and slices.Delete at structs). -/
import Derived.Laws.CopyOwn
import Derived.Lib.AppendZerosOnto
import Derived.Lib.Overlaps
import Derived.Shelf.RegionOpenPlain
import Derived.Test.YtgbjfdaldakpiaaWMore
import Derived.Test.YtgbjfdaldakpiaaWKept
set_option linter.unusedVariables false
set_option linter.unusedSimpArgs false
namespace Go.Proofs.Ytgbjfdaldakpiaa.Li
open Go Go.RowKit Go.Proofs.YtgbjfdaldakpiaaW.PrintWords
section
variable {α : Type} {enc : α → List Value} {sz : Nat}
theorem flat_len (h : ∀ x, (enc x).length = sz) : ∀ xs : List α, (xs.flatMap enc).length = xs.length * sz
  | [] => by simp
  | x :: r => by rw [List.flatMap_cons, List.length_append, h, flat_len h r, List.length_cons, Nat.succ_mul]; omega
theorem reps_flat {R : α → List Value → Prop} (hR : ∀ x c, R x c → c = enc x) : ∀ (xs : List α) (cs : List Value), Reps R sz xs cs → cs = xs.flatMap enc
  | [], cs, h => by have := h.1; simpa using this
  | x :: r, cs, h => by
    have h0 := h.2 0 x rfl
    have e0 := hR _ _ h0
    simp only [Nat.zero_mul, List.drop_zero] at e0
    have ht : Reps R sz r (cs.drop sz) := by
      refine ⟨by rw [List.length_drop, h.1, List.length_cons, Nat.succ_mul]; omega, fun j p hp => ?_⟩
      have := h.2 (j + 1) p hp
      rwa [List.drop_drop, show sz + j * sz = (j + 1) * sz by rw [Nat.succ_mul]; omega]
    rw [List.flatMap_cons, ← e0, ← reps_flat hR r _ ht, List.take_append_drop]
theorem flat_reps {R : α → List Value → Prop} (hR : ∀ x, R x (enc x)) (hl : ∀ x, (enc x).length = sz) (xs : List α) : Reps R sz xs (xs.flatMap enc) := by
  refine ⟨flat_len hl xs, fun j p hp => ?_⟩
  have : ∀ (xs : List α) (j : Nat), xs[j]? = some p → ((xs.flatMap enc).drop (j * sz)).take sz = enc p := by
    intro xs
    induction xs with
    | nil => intro j h; simp at h
    | cons x r ih =>
      intro j h
      cases j with
      | zero =>
        obtain rfl : x = p := by simpa using h
        rw [List.flatMap_cons, Nat.zero_mul, List.drop_zero, List.take_append_of_le_length (by rw [hl]; exact Nat.le_refl _), ← hl x, List.take_length]
      | succ j =>
        have h' : r[j]? = some p := by simpa using h
        rw [List.flatMap_cons, show (j + 1) * sz = (enc x).length + j * sz by rw [hl, Nat.succ_mul]; omega, ← List.drop_drop, List.drop_left]
        exact ih j h'
  rw [this xs j hp]
  exact hR p
theorem one_flat (h1 : ∀ x, ∀ u ∈ enc x, u.oneCell' = true) (xs : List α) : ∀ u ∈ xs.flatMap enc, u.oneCell' = true := by
  intro u hu
  obtain ⟨x, _, hx⟩ := List.mem_flatMap.1 hu
  exact h1 x u hx
end
section
variable {α : Type} {d : Kd α} {enc : α → List Value} {e : Nat} {w : World} {base : Nat} {ok : Nat → Prop} {v : Value} {xs : List α}
/-- An own row, by its cells. -/
theorem own_open (hM : ∀ (w : World) base ok x c, d.M w base ok x c → c = enc x) (h : d.R e w base ok v xs) :
    (v = .slice none 0 0 ∧ xs = []) ∨ ∃ (g cap : Nat) (sp : List Value), v = .slice (some ⟨g, 0, none⟩) xs.length cap ∧ base ≤ g ∧ ok g ∧ w.heap[g]? = some (.cells (xs.flatMap enc ++ sp).toArray e (0, 0)) ∧ xs.length ≤ cap ∧ cap ≤ maxLen ∧ (xs.flatMap enc ++ sp).length = cap * d.sz := by
  obtain ⟨hok, inner, ⟨hl, hrow⟩, hr⟩ := h
  have ei := reps_flat (fun x c => hM _ _ _ x c) _ _ hr
  rcases hrow with ⟨rfl, h0⟩ | ⟨g, cap, cur, rfl, hb, hh, hn, hm, hs, ht⟩
  · exact .inl ⟨rfl, List.eq_nil_of_length_eq_zero h0⟩
  · refine .inr ⟨g, cap, cur.toList.drop (xs.length * d.sz), rfl, hb, hok g (by simp [Value.ownBlock]), ?_, hn, hm, ?_⟩
    · rw [← ei, ← ht, List.take_append_drop]; simpa using hh
    · rw [← ei, ← ht, List.take_append_drop]; simpa using hs
theorem own_shut (hM : ∀ (w : World) base ok x, d.M w base ok x (enc x)) (hl : ∀ x, (enc x).length = d.sz) {g cap : Nat} {sp : List Value} (hb : base ≤ g) (hok : ok g) (hh : w.heap[g]? = some (.cells (xs.flatMap enc ++ sp).toArray e (0, 0)))
    (hn : xs.length ≤ cap) (hm : cap ≤ maxLen) (hs : (xs.flatMap enc ++ sp).length = cap * d.sz) : d.R e w base ok (.slice (some ⟨g, 0, none⟩) xs.length cap) xs := by
  refine ⟨fun k hk => ?_, xs.flatMap enc, ⟨flat_len hl xs, .inr ⟨g, cap, _, rfl, hb, hh, hn, hm, by simpa using hs, ?_⟩⟩, flat_reps (fun x => hM _ _ _ x) hl xs⟩
  · obtain rfl : g = k := by simpa [Value.ownBlock] using hk
    exact hok
  · rw [← flat_len hl xs]; simp
theorem reads_open (hK : ∀ (w : World) x c, d.K w x c → c = enc x) (hl : ∀ x, (enc x).length = d.sz) {A : Option Addr} (h : d.C w A xs.length xs) (hp : 0 < xs.length) :
    ∃ ad, A = some ad ∧ ∀ j v, (xs.flatMap enc)[j]? = some v → w.cell? (ad.add j) = some v := by
  obtain ⟨_, _, h2⟩ := h
  obtain ⟨ad, rfl, hc⟩ := h2 hp
  refine ⟨ad, rfl, ?_⟩
  have key : ∀ (ys : List α) (o : Nat), (∀ j p, ys[j]? = some p → ∃ c, c.length = d.sz ∧ d.K w p c ∧ ∀ i u, c[i]? = some u → w.cell? (ad.add ((o + j) * d.sz + i)) = some u) → ∀ j v, (ys.flatMap enc)[j]? = some v → w.cell? (ad.add (o * d.sz + j)) = some v := by
    intro ys
    induction ys with
    | nil => intro o _ j v hj; simp at hj
    | cons y r ih =>
      intro o hy j v hj
      rw [List.flatMap_cons] at hj
      rcases Nat.lt_or_ge j (enc y).length with hlt | hge
      · rw [List.getElem?_append_left hlt] at hj
        obtain ⟨c, _, hk, hcell⟩ := hy 0 y rfl
        rw [hK _ _ _ hk] at hcell
        simpa using hcell j v hj
      · rw [List.getElem?_append_right hge] at hj
        have := ih (o + 1) (fun j p hp => by
          have := hy (j + 1) p (by simpa using hp)
          rwa [show o + 1 + j = o + (j + 1) by omega]) (j - (enc y).length) v hj
        rwa [hl, show (o + 1) * d.sz + (j - d.sz) = o * d.sz + j by rw [Nat.succ_mul]; rw [hl] at hge; omega] at this
  intro j v hj
  simpa using key xs 0 (fun j p hp => by simpa using hc j p hp) j v hj
end
section
variable {P : Program} {ops : Array Oper} {rest : List Oper} {o : Oper} {a : Act} {w : World} {Q : Exit → Act → World → Prop}
/-- copy, at elements of K cells, into a row that is known whole. -/
theorem run_copyK (dT sT ty elem : TypeId) (K : Nat) (g off dLen dCap : Nat) (ad : Addr) (sLen sCap : Nat) (cur : Array Value) (t : TypeId) (cs : List Value)
    (hu : P.underlying dT = some (.slice elem)) (hs : (P.info? elem).map (·.size) = some K)
    (hg : w.heap[g]? = some (.cells cur t (0, 0))) (hn : cs.length = Nat.min sLen dLen * K)
    (hsrc : ∀ j v, cs[j]? = some v → w.cell? (ad.add j) = some v) (hfit : off + cs.length ≤ cur.size) (h1 : ∀ v ∈ cs, v.oneCell' = true) :
    (Builtin.copy_ #[dT, sT] ty #[.slice (some ⟨g, off, none⟩) dLen dCap, .slice (some ad) sLen sCap]).run P w =
      .ok (goInt (Nat.min sLen dLen)) (w.setRow g (cur.toList.take off ++ cs ++ cur.toList.drop (off + cs.length)).toArray) := by
  have hl := run_loadCells_list (P := P) w ad cs hsrc
  have hst := run_storeCells_at P g off t cs 0 cur w hg (by simpa using hfit) h1
  cases hq : P.info? elem with
  | none => simp [hq] at hs
  | some i =>
    have hi : i.size = K := by simpa [hq] using hs
    have hm : Nat.min sLen dLen * i.size = cs.length := by rw [hi, hn]
    simp [Builtin.copy_, run_underlying hu, Builtin.lenOf, Builtin.firstCells, sizeOf, typeInfo, hq, hm, hl, hst]
theorem wpList_copyK (hgd : o.guard = none) (d s : Operand) (dT sT : TypeId)
    (ho : o.op = .call { callee := .builtin .copy, args := #[d, s], argTypes := #[dT, sT] }) (elem : TypeId) (K : Nat) (hu : P.underlying dT = some (.slice elem)) (hsz : (P.info? elem).map (·.size) = some K)
    (g off dLen dCap : Nat) (ad : Addr) (sLen sCap : Nat) (hd : a.eval d = .slice (some ⟨g, off, none⟩) dLen dCap) (hs : a.eval s = .slice (some ad) sLen sCap)
    (cur : Array Value) (t : TypeId) (hg : w.heap[g]? = some (.cells cur t (0, 0))) (cs : List Value) (hn : cs.length = Nat.min sLen dLen * K)
    (hsrc : ∀ j v, cs[j]? = some v → w.cell? (ad.add j) = some v) (hfit : off + cs.length ≤ cur.size) (h1 : ∀ v ∈ cs, v.oneCell' = true)
    (N : Array Value) (hN : N = (cur.toList.take off ++ cs ++ cur.toList.drop (off + cs.length)).toArray)
    (h : wpList P ops Q rest (a.put o.dst (goInt (Nat.min sLen dLen))) (w.setRow g N)) : wpList P ops Q (o :: rest) a w := by
  refine wpList_plain hgd fun K' hK => ?_
  have hrun := run_copyK (P := P) dT sT o.type elem K g off dLen dCap ad sLen sCap cur t cs hu hsz hg hn hsrc hfit h1
  rw [← hN] at hrun
  unfold Oper.wp
  simp [execOp, ho, resolve, invoke, builtin, hd, hs, hrun, Result.andThen]
  exact hK _ _ h
theorem step_copyK {K' : Act → World → Prop} {E : Prop} (hgd : o.guard = none) (d s : Operand) (dT sT : TypeId)
    (ho : o.op = .call { callee := .builtin .copy, args := #[d, s], argTypes := #[dT, sT] }) (elem : TypeId) (K : Nat) (hu : P.underlying dT = some (.slice elem)) (hsz : (P.info? elem).map (·.size) = some K)
    (g off dLen dCap : Nat) (ad : Addr) (sLen sCap : Nat) (hd : a.eval d = .slice (some ⟨g, off, none⟩) dLen dCap) (hs : a.eval s = .slice (some ad) sLen sCap)
    (cur : Array Value) (t : TypeId) (hg : w.heap[g]? = some (.cells cur t (0, 0))) (cs : List Value) (hn : cs.length = Nat.min sLen dLen * K)
    (hsrc : ∀ j v, cs[j]? = some v → w.cell? (ad.add j) = some v) (hfit : off + cs.length ≤ cur.size) (h1 : ∀ v ∈ cs, v.oneCell' = true)
    (N : Array Value) (hN : N = (cur.toList.take off ++ cs ++ cur.toList.drop (off + cs.length)).toArray)
    (h : K' (a.put o.dst (goInt (Nat.min sLen dLen))) (w.setRow g N)) :
    if Region.wanted o (yielded ops a.tmps) = true then Oper.wp P o a w K' Q else E := by
  have hw : Region.wanted o (yielded ops a.tmps) = true := by simp [Region.wanted, hgd]
  rw [if_pos hw]
  have hrun := run_copyK (P := P) dT sT o.type elem K g off dLen dCap ad sLen sCap cur t cs hu hsz hg hn hsrc hfit h1
  rw [← hN] at hrun
  unfold Oper.wp
  simp [execOp, ho, resolve, invoke, builtin, hd, hs, hrun, Result.andThen]
  exact h
end
/-- What a store into one's own row leaves. -/
theorem kept_setRow {w W : World} {S : Nat → Prop} (h : Kept w W S) {g : Nat} (hg : S g ∨ w.heap.size ≤ g) (cs : Array Value) : Kept w (W.setRow g cs) S :=
  h.then_ (S2 := fun k => k = g) ⟨by simp, fun i _ hn => setRow_other W g i cs hn⟩ (fun k hk => by rw [hk]; exact hg)

/-- 'overlaps' where the second is one's own row and the first lies elsewhere: no. -/
theorem run_overlaps_own {P : Program} (w : World) (tS tR e : TypeId) (ht : P.underlying tS = some (.slice e)) (size : Nat) (hz : ∀ w, (Go.sizeOf e).run P w = .ok size w)
    (a b : Addr) (la ca lb cb : Nat) (hne : a.block ≠ b.block) (tA : TypeId) (kA : Nat) (hsa : w.shape? a.block = some (tA, kA)) (hkA : kA ≠ 0)
    (cur : Array Value) (tB : TypeId) (hb : w.heap[b.block]? = some (.cells cur tB (0, 0))) (hkB : cur.size ≠ 0) :
    (Extern.SlicesOverlaps.overlaps #[tS, tS] #[tR] #[.slice (some a) la ca, .slice (some b) lb cb]).run P w = .ok (.bool false) w := by
  have hnb : (a.block != b.block) = true := by simpa using hne
  have hnb' : (a.block == b.block) = false := by simpa using hne
  have hsb : w.shape? b.block = some (tB, cur.size) := by simp [World.shape?, hb]
  have hfb : ∀ o, w.frozen? { block := b.block, off := o } = false := fun o => by simp [World.frozen?, hb]
  have hfb' : w.frozen? b = false := by simp [World.frozen?, hb]
  change Sem.run P (α := Value) (do
    let some t := (#[tS, tS] : Array TypeId)[0]? | stuck "slices.overlaps: no parameter types"
    let .slice elem ← underlying t | stuck "slices.overlaps: slice type expected"
    let size ← sizeOf elem
    match (some a : Option Addr), (some b : Option Addr) with
    | some a, some b =>
      if la = 0 ∨ lb = 0 ∨ size = 0 then pure (Value.bool false)
      else if a.block != b.block && (← frozen a) && (← frozen b) then unsupported .addressObserved
      else do
        if a.block != b.block then do
          noView a; noView b
          if ← mayBeOne a b then return Value.bool ((← choose (.extern "sameAddr.stringBytes" 2)) == 1)
        pure (Value.bool (a.block == b.block && a.off < b.off + lb * size && b.off < a.off + la * size))
    | _, _ => pure (Value.bool false)) w = _
  by_cases h0 : la = 0 ∨ lb = 0 ∨ size = 0
  · simp [run_underlying ht, hz, h0]
  · obtain ⟨kA, rfl⟩ := Nat.exists_eq_succ_of_ne_zero hkA
    obtain ⟨m, hm⟩ := Nat.exists_eq_succ_of_ne_zero hkB
    cases hfa : w.frozen? a <;> cases hfe : w.frozen? { block := a.block, off := kA + 1 } <;>
      simp [run_underlying ht, hz, h0, hnb, hnb', frozen, noView, viewAt, mayBeOne, stringish, shape, Sem.run, hsa, hsb, hfa, hfe, hfb, hfb', hm]
theorem shape_of_cell {w : World} {a : Addr} {v : Value} (h : w.cell? a = some v) : ∃ t k, w.shape? a.block = some (t, k) ∧ k ≠ 0 := by
  unfold World.cell? at h
  unfold World.shape?
  split at h
  · rename_i c e f hh
    split at h
    · cases h
    · refine ⟨e, c.size, rfl, fun hz => ?_⟩
      rw [Array.getElem?_eq_none (by omega)] at h
      cases h
  · cases h
theorem setCells_eq_setRow {P : Program} {w : World} (g : Nat) (t : TypeId) (o : Nat) (vs : List Value) (cur : Array Value) (hg : w.heap[g]? = some (.cells cur t (0, 0))) (hl : o + vs.length ≤ cur.size) (h1 : ∀ v ∈ vs, v.oneCell' = true) :
    w.setCells g o vs = w.setRow g (cur.toList.take o ++ vs ++ cur.toList.drop (o + vs.length)).toArray := by
  have a := run_storeCells_at P g o t vs 0 cur w hg (by simpa using hl) h1
  have b := run_storeCells_cells (P := P) g o vs 0 w (fun j hj => by simp only [World.cell?, hg]; rw [Nat.add_zero, Array.getElem?_eq_getElem (by omega)]; rfl) (fun j hj => by simp [World.frozen?, hg]) h1
  rw [a] at b
  simp only [Nat.add_zero] at b
  injection b with _ b
  exact b.symm
theorem run_clearK {P : Program} (w : World) (t e ty : TypeId) (z : Value) (ht : P.underlying t = some (.slice e)) (hv : ∀ w, (zeroValue e).run P w = .ok z w) (b o n c : Nat) (ZC : List Value) (hzc : (Builtin.zeroCells z.cells n).toList = ZC) (hn : 0 < n)
    (hc : ∀ j, j < ZC.length → (w.cell? ⟨b, o + j, none⟩).isSome = true) (hf : ∀ j, j < ZC.length → w.frozen? ⟨b, o + j, none⟩ = false) (h1 : ∀ v ∈ ZC, v.oneCell' = true) :
    (Builtin.clear_ #[t] ty #[.slice (some ⟨b, o, none⟩) n c]).run P w = .ok (.tuple #[]) (w.setCells b o ZC) := by
  have hst := run_storeCells_cells (P := P) b o ZC 0 w (by simpa using hc) (by simpa using hf) h1
  simp only [Nat.add_zero] at hst
  obtain ⟨m, rfl⟩ : ∃ m, n = m + 1 := ⟨n - 1, by omega⟩
  simp [Builtin.clear_, run_underlying ht, hv, hzc, hst]
end Go.Proofs.Ytgbjfdaldakpiaa.Li
