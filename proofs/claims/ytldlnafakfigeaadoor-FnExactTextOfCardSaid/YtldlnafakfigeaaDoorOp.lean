/- Reading a data argument of any printed kind lays that kind open: whole numbers, bools, strings, slices, structs, nested as one likes; with the bounds that the row gives. -/
import Derived.WalkKit
import Derived.ProofKit
import Derived.OpenShut
import Derived.ShutString
import Derived.ChangeOld
import Derived.Below
import Derived.SizedLaws
import Derived.Test.YtldlnafakfigeaaDoorWWords
namespace Go.Proofs.YtldlnafakfigeaaDoor.Op
open Go.ChangeShapes Go.WideShapes Go.ChangeAt Go.RowKit Go.Proofs.YtldlnafakfigeaaDoorW.PrintWords
set_option linter.unusedVariables false

/-- What a reading of type t says: the cells are of the kind d, and WF holds of what they tell. -/
def Opens (P : Program) {α : Type} (t : TypeId) (d : Kd α) (WF : α → Prop) : Prop :=
  ∀ {H : Type} (enc : TypeId × Value → H) (w : World) (base : Nat) (spare : Nat → Bool) (held : Bool) (fuel : Nat) (cs : List Value) (x : DataW H × List MemPlace),
    DataW.trod enc P w base spare held fuel t cs = some x → (∀ n ∈ x.1.weights P t, n ≤ reachBytes) → ∃ y : α, d.K w y cs ∧ WF y

theorem Opens.imp {P : Program} {α : Type} {t : TypeId} {d : Kd α} {WF WF' : α → Prop} (h : Opens P t d WF) (hi : ∀ y, WF y → WF' y) : Opens P t d WF' := by
  intro H enc w base spare held fuel cs x hx hw
  obtain ⟨y, hy, hwf⟩ := h enc w base spare held fuel cs x hx hw
  exact ⟨y, hy, hi y hwf⟩

theorem opens_int {P : Program} {t : TypeId} {k : IntKind} (ht : P.underlying t = some (.int k)) : Opens P t (Kd.int k) (fun n => (Lit.int k n).wf = true) := by
  intro H enc w base spare held fuel cs x hx _
  obtain ⟨n, rfl, _, hn⟩ := DataW.trod_int ht hx
  exact ⟨n, rfl, hn⟩
theorem opens_bool {P : Program} {t : TypeId} (ht : P.underlying t = some .bool) : Opens P t Kd.bool (fun _ => True) := by
  intro H enc w base spare held fuel cs x hx _
  obtain ⟨b, rfl, _⟩ := DataW.trod_bool ht hx
  exact ⟨b, rfl, trivial⟩

theorem list_of {α : Type} {p : Nat → α → Prop} : ∀ n, (∀ i, i < n → ∃ y, p i y) → ∃ ys : List α, ys.length = n ∧ ∀ i y, ys[i]? = some y → p i y
  | 0, _ => ⟨[], rfl, fun i y h => by simp at h⟩
  | n + 1, h => by
    obtain ⟨ys, hl, hy⟩ := list_of (p := p) n (fun i hi => h i (by omega))
    obtain ⟨z, hz⟩ := h n (by omega)
    refine ⟨ys ++ [z], by simp [hl], fun i y hi => ?_⟩
    rcases Nat.lt_or_ge i ys.length with hlt | hge
    · rw [List.getElem?_append_left hlt] at hi
      exact hy i y hi
    · have : i = ys.length := by
        have := (List.getElem?_eq_some_iff.1 hi).1
        simp at this
        omega
      subst this
      simp at hi
      subst hi
      rw [hl]
      exact hz

theorem weightsAll_mem {H : Type} {P : Program} {e : TypeId} : ∀ {ds : List (DataW H)} {d : DataW H}, d ∈ ds → ∀ n ∈ d.weights P e, n ∈ DataW.weightsAll P e ds
  | d0 :: ds, d, hd, n, hn => by
    simp only [DataW.weightsAll, List.mem_append]
    rcases List.mem_cons.1 hd with rfl | hd
    · exact .inl hn
    · exact .inr (weightsAll_mem hd n hn)
  | [], _, hd, _, _ => by simp at hd

/-- The row of a slice that is read. -/
theorem opens_slice {P : Program} {α : Type} {t e : TypeId} {d : Kd α} {WF : α → Prop} (ht : P.underlying t = some (.slice e)) (hc : P.cellsOf e = d.sz) (h : Opens P e d WF) :
    Opens P t (Kd.slice e d) (fun xs => xs.length * P.bytesOf e ≤ reachBytes ∧ xs.length ≤ maxLen ∧ ∀ x ∈ xs, WF x) := by
  intro H enc w base spare held fuel cs x hx hw
  rcases DataW.trod_slice ht hx with ⟨rfl, rfl⟩ | ⟨a, len, cap, elems, rest, n, _, rfl, rfl, hb, hl, hm, hlen, hel, _, _⟩
  · refine ⟨[], ⟨none, 0, rfl, Nat.le_refl _, ?_⟩, ⟨by simp, by simp, by simp⟩⟩
    exact ⟨rfl, by simp, fun hn => absurd hn (by simp)⟩
  · have hw1 : ∀ m ∈ (elems.length + rest.length) * P.bytesOf e :: (DataW.weightsAll P e (elems.map (·.1)) ++ DataW.weightsAll P e (rest.map (·.1))), m ≤ reachBytes := by
      intro m hm'
      refine hw m ?_
      simp only [DataW.weights, ht, List.length_map]
      exact hm'
    have hp : ∀ i, i < len → ∃ y : α, WF y ∧ ∃ c, c.length = d.sz ∧ d.K w y c ∧ ∀ j u, c[j]? = some u → w.cell? (a.add (i * d.sz + j)) = some u := by
      intro i hi
      have hi' : i < elems.length := by omega
      have hel' := hel i hi
      rw [List.getElem?_eq_getElem hi', Option.bind_eq_some_iff] at hel'
      obtain ⟨c, hcs, hy⟩ := hel'
      obtain ⟨y, hK, hWF⟩ := h enc w base spare held n c _ hy (fun m hm' => hw1 m (List.mem_cons_of_mem _ (List.mem_append_left _ (weightsAll_mem (List.mem_map_of_mem (List.getElem_mem hi')) m hm'))))
      have hcl := d.K_len hK
      have hcell := (World.cells?_some hcs).2.2
      refine ⟨y, hWF, c, hcl, hK, fun j u hj => ?_⟩
      have hjl : j < c.length := (List.getElem?_eq_some_iff.1 hj).1
      have hz := hcell j (by rw [hc]; omega)
      rw [add_add, hc] at hz
      rw [hz]
      exact hj
    obtain ⟨ys, hyl, hys⟩ := list_of len hp
    have hkey : len * P.bytesOf e ≤ reachBytes := Nat.le_trans (Nat.mul_le_mul_right _ (by omega)) (hw1 _ List.mem_cons_self)
    refine ⟨ys, ⟨some a, cap, by rw [hyl], by omega, ?_⟩, ⟨by rw [hyl]; exact hkey, by rw [hyl]; omega, fun x hx' => ?_⟩⟩
    · refine ⟨rfl, by simp only [maxLen] at hm; omega, fun _ => ⟨a, rfl, fun j p hj => ?_⟩⟩
      obtain ⟨_, c, h1, h2, h3⟩ := hys j p hj
      exact ⟨c, h1, h2, h3⟩
    · obtain ⟨i, hi⟩ := List.getElem?_of_mem hx'
      exact (hys i x hi).1

/-- The fields of a struct from an offset on. -/
def OpensFs (P : Program) {α : Type} (fs : List Field) (off : Nat) (d : Kd α) (WF : α → Prop) : Prop :=
  ∀ {H : Type} (enc : TypeId × Value → H) (w : World) (base : Nat) (spare : Nat → Bool) (held : Bool) (fuel : Nat) (cs : List Value) (xs : List (DataW H × List MemPlace)),
    xs.length = fs.length → (∀ (i : Nat) (f : Field), fs[i]? = some f → DataW.trod enc P w base spare held fuel f.type ((cs.drop f.offset).take (P.cellsOf f.type)) = xs[i]?) →
    (∀ n ∈ DataW.weightsEach P (fs.map (·.type)) (xs.map (·.1)), n ≤ reachBytes) → ∃ y : α, d.K w y ((cs.drop off).take d.sz) ∧ WF y

theorem fs_one {P : Program} {α : Type} {f : Field} {off : Nat} {t : TypeId} {d : Kd α} {WF : α → Prop} (hft : f.type = t) (ho : f.offset = off) (hc : P.cellsOf t = d.sz) (h : Opens P t d WF) : OpensFs P [f] off d WF := by
  subst hft ho
  intro H enc w base spare held fuel cs xs hl hf hw
  match xs, hl with
  | [x], _ =>
    have h0 : DataW.trod enc P w base spare held fuel f.type ((cs.drop f.offset).take (P.cellsOf f.type)) = some x := by simpa using hf 0 f rfl
    rw [hc] at h0
    exact h enc w base spare held fuel _ x h0 (fun n hn => hw n (by simp only [List.map, DataW.weightsEach, List.mem_append]; exact .inl hn))

theorem fs_cons {P : Program} {α β : Type} {f : Field} {fs : List Field} {off off' : Nat} {t : TypeId} {d : Kd α} {d' : Kd β} {WF : α → Prop} {WF' : β → Prop} (hft : f.type = t) (ho : f.offset = off) (hc : P.cellsOf t = d.sz) (ho' : off' = off + d.sz)
    (h : Opens P t d WF) (h' : OpensFs P fs off' d' WF') : OpensFs P (f :: fs) off (Kd.pair d d') (fun p => WF p.1 ∧ WF' p.2) := by
  subst hft ho ho'
  intro H enc w base spare held fuel cs xs hl hf hw
  match xs, hl with
  | x :: xs, hl =>
    have h0 : DataW.trod enc P w base spare held fuel f.type ((cs.drop f.offset).take (P.cellsOf f.type)) = some x := by simpa using hf 0 f rfl
    rw [hc] at h0
    obtain ⟨y, hK, hWF⟩ := h enc w base spare held fuel _ x h0 (fun n hn => hw n (by simp only [List.map, DataW.weightsEach, List.mem_append]; exact .inl hn))
    obtain ⟨y', hK', hWF'⟩ := h' enc w base spare held fuel cs xs (by simpa using hl) (fun i g hg => by simpa using hf (i + 1) g (by simpa using hg)) (fun n hn => hw n (by simp only [List.map, DataW.weightsEach, List.mem_append]; exact .inr hn))
    refine ⟨(y, y'), ⟨_, _, ?_, hK, hK'⟩, hWF, hWF'⟩
    show (cs.drop f.offset).take (d.sz + d'.sz) = _
    rw [List.take_add, List.drop_drop]

theorem opens_struct {P : Program} {α β : Type} {t : TypeId} {fs : Array Field} {d : Kd α} {f : β → α} (g : α → β) (hg : ∀ y, f (g y) = y) {WF : α → Prop} (ht : P.underlying t = some (.struct fs)) (hc : P.cellsOf t = d.sz) (h : OpensFs P fs.toList 0 d WF) :
    Opens P t (Kd.iso d f) (fun x => WF (f x)) := by
  intro H enc w base spare held fuel cs x hx hw
  obtain ⟨xs, n, _, rfl, hl, hlen, hf⟩ := DataW.trod_struct ht hx
  obtain ⟨y, hK, hWF⟩ := h enc w base spare held n cs xs (by simpa using hlen) (fun i q hq => hf i q (by simpa using hq)) (fun m hm => hw m (by simp only [DataW.weights, ht]; exact hm))
  refine ⟨g y, ?_, by simpa [hg] using hWF⟩
  show d.K w (f (g y)) cs
  rw [hg]
  have e : (cs.drop 0).take d.sz = cs := by rw [List.drop_zero, ← hc, ← hl, List.take_length]
  rwa [e] at hK

/-- At the row's door: an argument's weights. -/
theorem weights_le {H : Type} {P : Program} {ts : List TypeId} {ds : List (DataW H)} (hsz : (DataW.weightsEach P ts ds).all (· ≤ reachBytes) = true) {j : Nat} {t : TypeId} {d : DataW H} (ht : ts[j]? = some t) (hd : ds[j]? = some d) : ∀ n ∈ d.weights P t, n ≤ reachBytes := by
  intro n hn
  have := List.all_eq_true.1 hsz n (DataW.weights_mem_each ht hd n hn)
  simpa using this

theorem open_at {P : Program} {α : Type} {t : TypeId} {d : Kd α} {WF : α → Prop} (h : Opens P t d WF) {H : Type} {enc : TypeId × Value → H} {w : World} {base : Nat} {spare : Nat → Bool} {held : Bool} {v : Value} {x : DataW H} {ps : List MemPlace}
    (hd : DataW.Trod enc P w base spare held t v x ps) (hw : ∀ n ∈ x.weights P t, n ≤ reachBytes) : ∃ y : α, d.K w y v.cells.toList ∧ WF y := by
  obtain ⟨fuel, hf⟩ := hd
  exact h enc w base spare held fuel _ _ hf hw

/-- A slice argument, opened. -/
theorem open_slice_arg {P : Program} {α : Type} {t e : TypeId} {d : Kd α} {WF : List α → Prop} (ht : P.underlying t = some (.slice e)) (h : Opens P t (Kd.slice e d) WF) {H : Type} {enc : TypeId × Value → H} {w : World} {base b0 : Nat} {r : Reach} {spare : Nat → Bool} {held : Bool} {v : Value} {x : DataW H} {ps : List MemPlace}
    (hval : Value.okWide P w r b0 t v) (hd : DataW.Trod enc P w base spare held t v x ps) (hw : ∀ n ∈ x.weights P t, n ≤ reachBytes) :
    ∃ (A : Option Addr) (c : Nat) (xs : List α), v = .slice A xs.length c ∧ xs.length ≤ c ∧ d.C w A xs.length xs ∧ WF xs := by
  obtain ⟨a, len, cap, rfl⟩ := okWide_slice ht hval
  obtain ⟨y, ⟨A, c, he, hl, hC⟩, hWF⟩ := open_at h hd hw
  simp [Value.cells] at he
  obtain ⟨rfl, rfl, rfl⟩ := he
  exact ⟨_, _, y, rfl, hl, hC, hWF⟩

/-- A struct argument, opened: its cells. -/
theorem open_struct_arg {P : Program} {α : Type} {t : TypeId} {fs : Array Field} {d : Kd α} {WF : α → Prop} (ht : P.underlying t = some (.struct fs)) (h : Opens P t d WF) {H : Type} {enc : TypeId × Value → H} {w : World} {base b0 : Nat} {r : Reach} {spare : Nat → Bool} {held : Bool} {v : Value} {x : DataW H} {ps : List MemPlace}
    (hval : Value.okWide P w r b0 t v) (hd : DataW.Trod enc P w base spare held t v x ps) (hw : ∀ n ∈ x.weights P t, n ≤ reachBytes) :
    ∃ (cs : Array Value) (y : α), v = .agg cs ∧ d.K w y cs.toList ∧ WF y := by
  obtain ⟨cs, rfl, _⟩ := okWide_struct ht hval
  obtain ⟨y, hK, hWF⟩ := open_at h hd hw
  exact ⟨cs, y, rfl, hK, hWF⟩

end Go.Proofs.YtldlnafakfigeaaDoor.Op
