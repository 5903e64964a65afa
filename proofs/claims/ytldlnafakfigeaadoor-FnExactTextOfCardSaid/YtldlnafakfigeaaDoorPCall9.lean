import Derived.Test.YtldlnafakfigeaaDoorP0
import Derived.Test.YtldlnafakfigeaaDoorPDall0
import Derived.IntWalk
import Derived.Shelf.Abstract
import Derived.Shelf.Lay
import Derived.Shelf.Strconv.Itoa4
import Derived.Shelf.Strings.OnBuilder
import Derived.Lib.AppendIntMem
import Derived.Ground.NamesProg
namespace Go.Proofs.YtldlnafakfigeaaDoor.P
open Go.RowKit Go.Proofs.YtldlnafakfigeaaDoorW.PrintWords Go.Proofs.YtldlnafakfigeaaDoorW.PrintLast Go.Proofs.YtldlnafakfigeaaDoorW.PrintMore
attribute [local go_sem] max2_int min2_int max_two min_two max_three min_three max_four min_four   -- for this text's walks alone
set_option linter.unusedVariables false
set_option linter.unusedSimpArgs false
-- PROOF --
open Go.Shelf in
shelf_lay Lays.n156 Nm 156 at Tryd as join_lay
theorem joinX : Builder.Extra Tryd.prog join_lay_ren where
 sizeBuilder := by kernel_rfl
 liesBuilder := by kernel_rfl
 t5 := Tryd.underlying5
 a5 := Tryd.isAgg5
 z5 := Tryd.sizeOf5
 v5 := Tryd.zeroValue5
 infoByte := by kernel_rfl
 cellsByte := by kernel_rfl
 sizeByte := by kernel_rfl
 neB5 := by decide
theorem add_none (b o j : Nat) : (⟨b, o, none⟩ : Addr).add j = ⟨b, o + j, none⟩ := by
 unfold Addr.add
 by_cases h : j = 0
 ·rw [if_pos h, h]; rfl
 rw [if_neg h]
set_option maxHeartbeats 4000000 in
set_option maxRecDepth 100000 in
theorem impl_joined.calls (A0 : Option Addr) (c0 : Nat) (l0 : List ByteArray) (r : ByteArray) (w : World) (hr0 : Kd.C Kd.string w A0 l0.length l0) (hc0 : l0.length ≤ c0) (h : impl_joined.f l0 = some r) :
 Calls Tryd.prog 45 #[.slice A0 l0.length c0] w fun e w' => e = .returned (.string r) ∧ Below w.heap.size w w' := by
 unfold impl_joined.f at h
 by_cases c : l0 ≠ [] ∧ (Lib.join (l0.map (·.data.toList)) [32]).length ≤ 140737488355328 ∧ l0.length ≤ 140737488355328
 ·rw [if_pos c] at h
  obtain rfl := Option.some.inj h
  have C := Aside0.mk c
  obtain ⟨hl, hn, hcc⟩ := Kd.reads_of_C (enc := Value.string) (d := ByteArray.empty) (h1 := fun _ => rfl) hr0
  have hpos : 0 < l0.length := List.length_pos_iff.2 c.1
  obtain ⟨ad, hA, hcc2⟩ := hcc hpos
  subst hA
  clear hcc
  have hcc := hcc2
  clear hcc2
  obtain ⟨b, o, s⟩ := ad
  have h0 := hcc 0 hpos
  have hs : s = none := by
   cases s with
   | none => rfl
   | some x =>
    rw [show (⟨b, o, some x⟩ : Addr).add 0 = ⟨b, o, some x⟩ from rfl] at h0
    unfold World.cell? at h0
    split at h0 <;> simp at h0
  subst hs
  have HL := Aside0.mk (World.block_lt_of_cell? w _ h0)
  have HCC := Aside0.mk (show ∀ (j : Nat) x, l0[j]? = some x → w.cell? ⟨b, o + j, none⟩ = some (.string x) from fun j x hx => by
   obtain ⟨hj, e⟩ := List.getElem?_eq_some_iff.1 hx
   have := hcc j hj
   rw [add_none] at this
   rw [this, ← e]
   simp [List.getD, hj])
  have HC0 := Aside0.mk hc0
  clear h c hl hn hcc hpos h0 hr0 hc0
  go_enter Tryd.func45, Tryd.ntmps45
  go_wp2_with (go_at_call 65; refine (Any.strings_Join join_lay joinX b o c0 l0 ⟨#[32]⟩ _ HCC.out HL.out C.out.2.2 HC0.out C.out.2.1).mono ?_; rintro e w' ⟨rfl, hb⟩)
  go_ret
  exact ⟨rfl, hb⟩
 rw [if_neg c] at h; simp at h
-- PROOF --
open Go.Shelf in
shelf_lay LaysM.n173 Nm 173 at Tryd as formatInt_lay
theorem below_grow (w : World) (k : Nat) (os : Array Obj) : Below w.heap.size w (Go.Sort.grow (w.drewN k) os) :=
 ⟨rfl, rfl, rfl, by simp [Go.Sort.grow, World.drewN], fun k hk => by simp [Go.Sort.grow, World.drewN, Array.getElem?_append, hk]⟩
def TabAll (w : World) : Prop := Lib.TabBelow Tryd.prog w.heap.size w "internal/strconv.uint64pow10" .u64 Lib.pow10Tab
theorem TabAll.on {w W : World} (h : Aside0 (TabAll w)) (hb : Below w.heap.size w W) : Aside0 (TabAll W) := ⟨fun W2 h2 => h.out W2 (below_step hb h2)⟩
set_option maxHeartbeats 4000000 in
set_option maxRecDepth 100000 in
theorem impl_dec.calls (a0 : Int) (r : ByteArray) (w : World) (h : impl_dec.f a0 = some r) (HTAB : Aside0 (TabAll w) := by exact TabAll.on HTAB (by repeat (first | (with_reducible first | exact HB.out | apply below_alloc | apply pw_below_drewN | apply below_drew1 | refine below_set ?_ (Aside0.out (by assumption))) | exact HB.out))) :
 Calls Tryd.prog 46 #[.int .i64 a0] w fun e w' => e = .returned (.string r) ∧ Below w.heap.size w w' := by
 unfold impl_dec.f at h
 by_cases c : -9223372036854775808 ≤ a0 ∧ a0 ≤ 9223372036854775807
 ·rw [if_pos c] at h
  obtain rfl := Option.some.inj h
  have C := Aside0.mk c
  clear h c
  go_enter Tryd.func46, Tryd.ntmps46
  go_wp2_with (go_at_call 66; refine (Any.strconv_FormatInt_10 formatInt_lay a0 C.out.1 C.out.2 _ HTAB.out.here).mono ?_; rintro e w' ⟨rfl, k_, os_, rfl⟩)
  go_ret
  exact ⟨rfl, below_grow _ _ _⟩
 rw [if_neg c] at h; simp at h
end Go.Proofs.YtldlnafakfigeaaDoor.P
