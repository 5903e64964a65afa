-- Printed by this session's own program over the kit's print (wip/tools/mp.py). Not trusted: Lean checks it.
import Derived.Test.YtkaammmkejiafaaP0
import Derived.Test.YtkaammmkejiafaaLb
namespace Go.Proofs.Ytkaammmkejiafaa.P
open Go.RowKit Go.Proofs.YtkaammmkejiafaaW.PrintWords Go.Proofs.YtkaammmkejiafaaW.PrintLast Go.Proofs.YtkaammmkejiafaaW.PrintMore
attribute [local go_sem] max2_int min2_int max_two min_two max_three min_three max_four min_four   -- for this text's walks alone
set_option linter.unusedVariables false
set_option linter.unusedSimpArgs false

/-! ### laws_lwBig: function 5 -/
def laws_lwBig.f (l0 : List Int) : Option (Bool) := some (decide ((l0.length : Int) > 1048576))

/-- A state of type 60 at block g of W; what its slices lead to came in by w0. -/
def IsS60 (w0 W : World) (g : Nat) (f0 : List Int) (f1 : Int) : Prop := ∃ A0 c0, W.heap[g]? = some (.cells #[.slice A0 f0.length c0, .int .i64 f1] 60 (0, 0)) ∧ w0.heap.size ≤ g ∧ Kd.C (Kd.int .u8) w0 A0 f0.length f0
theorem IsS60.grown {w0 W : World} {g : Nat} {f0 : List Int} {f1 : Int} {W1 : World} {row : Option Nat} (h : IsS60 w0 W g f0 f1) (hw : W.grownBy W1 row) (hne : some g ≠ row) : IsS60 w0 W1 g f0 f1 := by
  obtain ⟨A0, c0, hb, hg, hr0⟩ := h
  exact ⟨A0, c0, blk_grown hb hw hne, hg, hr0⟩
theorem IsS60.own_neN {w0 W : World} {g : Nat} {f0 : List Int} {f1 : Int} {α : Type} {d : Kd α} {e : Nat} {base : Nat} {ok : Nat → Prop} {v : Value} {xs : List α} (h : IsS60 w0 W g f0 f1) (ho : Kd.N d e W base ok v xs) (ht : e ≠ 60) : some g ≠ v.ownBlock := by
  obtain ⟨A0, c0, hb, hg, hr0⟩ := h
  exact Kd.N_ne ho hb ht
theorem IsS60.fresh {w0 W : World} {g : Nat} {f0 : List Int} {f1 : Int} (h : IsS60 w0 W g f0 f1) : ∀ k, W.heap.size ≤ k → k ≠ g := by
  obtain ⟨A0, c0, hb, hg, hr0⟩ := h
  exact Kd.freshB hb
theorem IsS60.kept {w0 W : World} {g : Nat} {f0 : List Int} {f1 : Int} {W1 : World} {S : Nat → Prop} (h : IsS60 w0 W g f0 f1) (hk : Kept W W1 S) (hne : ¬ S g) : IsS60 w0 W1 g f0 f1 := by
  obtain ⟨A0, c0, hb, hg, hr0⟩ := h
  exact ⟨A0, c0, blk_kept hb hk hne, hg, hr0⟩
theorem IsS60.below {w0 W : World} {g : Nat} {f0 : List Int} {f1 : Int} {W1 : World} (h : IsS60 w0 W g f0 f1) (hw : Below W.heap.size W W1) : IsS60 w0 W1 g f0 f1 := h.grown (grown_of_below hw none) (by simp)
theorem IsS60.alloc {w0 W : World} {g : Nat} {f0 : List Int} {f1 : Int} (h : IsS60 w0 W g f0 f1) (o : Obj) : IsS60 w0 (W.alloc o) g f0 f1 := h.below (below_alloc (Below.refl _ _) o)
theorem IsS60.drewN {w0 W : World} {g : Nat} {f0 : List Int} {f1 : Int} (h : IsS60 w0 W g f0 f1) (m : Nat) : IsS60 w0 (W.drewN m) g f0 f1 := h
theorem IsS60.drew {w0 W : World} {g : Nat} {f0 : List Int} {f1 : Int} (h : IsS60 w0 W g f0 f1) : IsS60 w0 W.drew g f0 f1 := h
theorem IsS60.at_ {w0 W : World} {g : Nat} {f0 : List Int} {f1 : Int} {w' : World} {m : Nat} (hq : W.drewN m = w') (h : IsS60 w0 W g f0 f1) : IsS60 w0 w' g f0 f1 := by subst hq; exact IsS60.drewN h m
theorem IsS60.apart {w0 W : World} {g : Nat} {f0 : List Int} {f1 : Int} {α : Type} {d : Kd α} {e : Nat} {base : Nat} {ok : Nat → Prop} {v : Value} {xs : List α} (h : IsS60 w0 W g f0 f1) (ho : d.R e W base ok v xs) (ht : ∀ q, q ∈ e :: d.E → q ≠ 60) : d.R e W base (fun k => ok k ∧ k ≠ g) v xs := by
  obtain ⟨A0, c0, hb, hg, hr0⟩ := h
  exact Kd.R_types ho hb ht
theorem IsS60.own_ne {w0 W : World} {g : Nat} {f0 : List Int} {f1 : Int} {α : Type} {d : Kd α} {e : Nat} {base : Nat} {ok : Nat → Prop} {v : Value} {xs : List α} (h : IsS60 w0 W g f0 f1) (ho : d.R e W base ok v xs) (ht : e ≠ 60) : some g ≠ v.ownBlock := by
  obtain ⟨A0, c0, hb, hg, hr0⟩ := h
  exact Kd.R_ne ho hb ht
theorem IsS60.apartQ {w0 W : World} {g : Nat} {f0 : List Int} {f1 : Int} {α : Type} {d : Kd α} {e : Nat} {base : Nat} {ok : Nat → Prop} {v : Value} {xs : List α} (h : IsS60 w0 W g f0 f1) (ho : d.Q e W base ok v xs) (ht : ∀ q, q ∈ e :: d.E → q ≠ 60) : d.Q e W base (fun k => ok k ∧ k ≠ g) v xs := by
  obtain ⟨A0, c0, hb, hg, hr0⟩ := h
  exact Kd.Q_types ho hb ht
theorem IsS60.own_neQ {w0 W : World} {g : Nat} {f0 : List Int} {f1 : Int} {α : Type} {d : Kd α} {e : Nat} {base : Nat} {ok : Nat → Prop} {v : Value} {xs : List α} (h : IsS60 w0 W g f0 f1) (ho : d.Q e W base ok v xs) (ht : e ≠ 60) : some g ≠ v.ownBlock := by
  obtain ⟨A0, c0, hb, hg, hr0⟩ := h
  exact Kd.Q_ne ho hb ht
theorem IsS60.apartS {w0 W : World} {g : Nat} {f0 : List Int} {f1 : Int} {α : Type} {d : Kd α} {e : Nat} {base : Nat} {ok : Nat → Prop} {v : Value} {xs : List α} (h : IsS60 w0 W g f0 f1) (ho : d.S e W base ok v xs) (ht : ∀ q, q ∈ e :: d.E → q ≠ 60) : d.S e W base (fun k => ok k ∧ k ≠ g) v xs := by
  obtain ⟨A0, c0, hb, hg, hr0⟩ := h
  exact Kd.S_types ho hb ht
theorem IsS60.own_neS {w0 W : World} {g : Nat} {f0 : List Int} {f1 : Int} {α : Type} {d : Kd α} {e : Nat} {base : Nat} {ok : Nat → Prop} {v : Value} {xs : List α} (h : IsS60 w0 W g f0 f1) (ho : d.S e W base ok v xs) (ht : e ≠ 60) : some g ≠ v.ownBlock := by
  obtain ⟨A0, c0, hb, hg, hr0⟩ := h
  exact Kd.S_ne ho hb ht
theorem IsS60.lt {w0 W : World} {g : Nat} {f0 : List Int} {f1 : Int} (h : IsS60 w0 W g f0 f1) : g < W.heap.size := by
  obtain ⟨A0, c0, hb, hg, hr0⟩ := h
  exact blk_lt hb
theorem IsS60.ge {w0 W : World} {g : Nat} {f0 : List Int} {f1 : Int} (h : IsS60 w0 W g f0 f1) : w0.heap.size ≤ g := by
  obtain ⟨A0, c0, hb, hg, hr0⟩ := h
  exact hg
theorem IsS60.ne_blk {w0 W : World} {g : Nat} {f0 : List Int} {f1 : Int} {a : Nat} {cs : Array Value} {t : TypeId} {fr : Nat × Nat} (h : IsS60 w0 W g f0 f1) (hb2 : W.heap[a]? = some (.cells cs t fr)) (ht : t ≠ 60) : g ≠ a := by
  obtain ⟨A0, c0, hb, hg, hr0⟩ := h
  rintro rfl
  rw [hb] at hb2
  injection hb2 with hb2
  injection hb2 with _ ht2
  exact ht ht2.symm
theorem IsS60.far {w0 W : World} {g : Nat} {f0 : List Int} {f1 : Int} {p : Addr} (h : IsS60 w0 W g f0 f1) (hne : g ≠ p.block) (u : Value) : IsS60 w0 (W.setCell p u) g f0 f1 := by
  obtain ⟨A0, c0, hb, hg, hr0⟩ := h
  exact ⟨A0, c0, blk_far hb hne u, hg, hr0⟩
theorem cellS60_0 {W : World} {g : Nat} {A0 : Option Addr} {c0 : Nat} {f0 : List Int} {f1 : Int} (h : W.heap[g]? = some (.cells #[.slice A0 f0.length c0, .int .i64 f1] 60 (0, 0))) : W.cell? ⟨g, 0, none⟩ = some (.slice A0 f0.length c0) := (blk_cell h 0).trans rfl
theorem cellS60_1 {W : World} {g : Nat} {A0 : Option Addr} {c0 : Nat} {f0 : List Int} {f1 : Int} (h : W.heap[g]? = some (.cells #[.slice A0 f0.length c0, .int .i64 f1] 60 (0, 0))) : W.cell? ⟨g, 1, none⟩ = some (.int .i64 f1) := (blk_cell h 1).trans rfl
theorem IsS60.set_1 {w0 W : World} {g : Nat} {f0 : List Int} {f1 : Int} (h : IsS60 w0 W g f0 f1) (x : Int) : IsS60 w0 (W.setCell ⟨g, 1, none⟩ (.int .i64 x)) g f0 x := by
  obtain ⟨A0, c0, hb, hg, hr0⟩ := h
  exact ⟨A0, c0, by simpa using blk_set hb 1 (.int .i64 x), hg, hr0⟩
theorem IsS60.new (w0 W : World) (A0 : Option Addr) (c0 : Nat) (f0 : List Int) (f1 : Int) (hB : Below w0.heap.size w0 W) (hr0 : Kd.C (Kd.int .u8) w0 A0 f0.length f0) : IsS60 w0 (W.alloc (.cells #[.slice A0 f0.length c0, .int .i64 f1] 60)) W.heap.size f0 f1 := ⟨A0, c0, by simpa using heap_alloc_new W _, hB.size, hr0⟩

/-! ### spec_l1Source: function 19 -/
def spec_l1Source.f (l0 : List Int) : Option (List Int × Int) := some (l0, 0)

/-! ### spec_l1Next: function 22 -/
def spec_l1Next.f (s0_0 : List Int) (s0_1 : Int) (a1 : Int) : Option (Int × Int) := if a1 < 1 then (some (0, wrap64 (s0_1 + 1))) else (if (s0_0.length : Int) = 0 then (if a1 = 0 then (none) else (some (Int.tmod (wrap64 ((wrap64 ((wrap64 (s0_1 + 1)) - 1)) * 7)) a1, wrap64 (s0_1 + 1)))) else (if 0 ≤ (Int.tmod (wrap64 ((wrap64 (s0_1 + 1)) - 1)) (s0_0.length : Int)) then (if (Int.tmod (wrap64 ((wrap64 (s0_1 + 1)) - 1)) (s0_0.length : Int)) < (s0_0.length : Int) then (if a1 > 200 then (if 0 ≤ (Int.tmod (wrap64 ((wrap64 ((wrap64 (s0_1 + 1)) - 1)) + 1)) (s0_0.length : Int)) then (if (Int.tmod (wrap64 ((wrap64 ((wrap64 (s0_1 + 1)) - 1)) + 1)) (s0_0.length : Int)) < (s0_0.length : Int) then (if a1 = 0 then (none) else (some (Int.tmod (wrap64 ((wrap64 ((wrap64 ((wrap64 ((wrap64 (rd s0_0 (Int.tmod (wrap64 ((wrap64 (s0_1 + 1)) - 1)) (s0_0.length : Int)))) + (wrap64 ((wrap64 (Int.tdiv (wrap64 ((wrap64 (s0_1 + 1)) - 1)) (s0_0.length : Int))) * 37)))) * 251)) + (wrap64 ((wrap64 (rd s0_0 (Int.tmod (wrap64 ((wrap64 ((wrap64 (s0_1 + 1)) - 1)) + 1)) (s0_0.length : Int)))) * 13)))) + (wrap64 ((wrap64 (s0_1 + 1)) - 1)))) a1, wrap64 (s0_1 + 1)))) else (none)) else (none)) else (if a1 = 0 then (none) else (some (Int.tmod (wrap64 ((wrap64 (rd s0_0 (Int.tmod (wrap64 ((wrap64 (s0_1 + 1)) - 1)) (s0_0.length : Int)))) + (wrap64 ((wrap64 (Int.tdiv (wrap64 ((wrap64 (s0_1 + 1)) - 1)) (s0_0.length : Int))) * 37)))) a1, wrap64 (s0_1 + 1))))) else (none)) else (none)))

/-! ### spec_l1Pick: function 21 -/
def spec_l1Pick.f (s0_0 : List Int) (s0_1 : Int) (l1 : List Int) : Option (Int × Int) := (spec_l1Next.f s0_0 s0_1 (l1.length : Int)).bind fun bt104 => (if 0 ≤ bt104.1 then (if bt104.1 < (l1.length : Int) then (some (rd l1 bt104.1, bt104.2)) else (none)) else (none))

/-! ### spec_l1Chance: function 34 -/
def spec_l1Chance.f (s0_0 : List Int) (s0_1 : Int) (a1 : Int) : Option (Bool × Int) := (spec_l1Next.f s0_0 s0_1 a1).bind fun bt107 => (some ((bt107.1 == 0), bt107.2))

/-! ### spec_l5Chain: function 47 -/
mutual
def spec_l5Chain.l0 : Nat → List (S51) → Int → Int → List Int → Int → Option ((List (S51)) × Int)
  | 0, _, _, _, _, _ => none
  | k + 1, x3, x4, x5, x1000, x1001 => if x5 > 0 then ((spec_l1Next.f x1000 x1001 6).bind fun bt123 => ((spec_l1Next.f x1000 bt123.2 90).bind fun bt125 => ((spec_l1Chance.f x1000 bt125.2 4).bind fun bt128 => (if bt128.1 = true then (spec_l5Chain.j1 k x3 x4 x5 x1000 bt128.2 (wrap64 (1 + bt123.1)) x4 true 0) else (spec_l5Chain.j1 k x3 x4 x5 x1000 bt128.2 (wrap64 (1 + bt123.1)) x4 false bt125.1))))) else (some (x3, x1001))
def spec_l5Chain.j1 : Nat → List (S51) → Int → Int → List Int → Int → Int → Int → Bool → Int → Option ((List (S51)) × Int)
  | 0, _, _, _, _, _, _, _, _, _ => none
  | k + 1, x3, x4, x5, x1000, x1001, x128000, x128001, x128002, x128003 => if (x3.length : Int) = 0 then ((spec_l1Chance.f x1000 x1001 2).bind fun bt130 => (if bt130.1 = true then (if x3.length < 4398046511104 then ((spec_l1Next.f x1000 bt130.2 3).bind fun bt135 => (spec_l5Chain.l0 k (x3 ++ [(⟨x128000, 0, x128002, x128003⟩ : S51)]) (wrap64 ((wrap64 (x4 - 1)) - bt135.1)) (wrap64 (x5 - 1)) x1000 bt135.2)) else (none)) else (if x3.length < 4398046511104 then ((spec_l1Next.f x1000 bt130.2 3).bind fun bt140 => (spec_l5Chain.l0 k (x3 ++ [(⟨x128000, x128001, x128002, x128003⟩ : S51)]) (wrap64 ((wrap64 (x4 - 1)) - bt140.1)) (wrap64 (x5 - 1)) x1000 bt140.2)) else (none)))) else (if x3.length < 4398046511104 then ((spec_l1Next.f x1000 x1001 3).bind fun bt145 => (spec_l5Chain.l0 k (x3 ++ [(⟨x128000, x128001, x128002, x128003⟩ : S51)]) (wrap64 ((wrap64 (x4 - 1)) - bt145.1)) (wrap64 (x5 - 1)) x1000 bt145.2)) else (none))
end
def spec_l5Chain.f (k : Nat) (s0_0 : List Int) (s0_1 : Int) : Option ((List (S51)) × Int) := (spec_l1Next.f s0_0 s0_1 20).bind fun bt112 => ((spec_l1Next.f s0_0 bt112.2 5).bind fun bt114 => ((spec_l1Next.f s0_0 bt114.2 5).bind fun bt116 => ((spec_l1Pick.f s0_0 bt116.2 (([bt114.1, bt116.1, 12] : List Int))).bind fun bt121 => (spec_l5Chain.l0 k (([] : List (S51))) (wrap64 (40 + bt112.1)) bt121.1 s0_0 bt121.2))))

/-! ### spec_l5Bent: function 20 -/
def spec_l5Bent.f (k : Nat) (s0_0 : List Int) (s0_1 : Int) : Option ((List (S51)) × Int) := (spec_l5Chain.f k s0_0 s0_1).bind fun bt147 => (if (bt147.1.length : Int) = 0 then (some (bt147.1, bt147.2)) else ((spec_l1Next.f s0_0 bt147.2 (bt147.1.length : Int)).bind fun bt151 => ((spec_l1Next.f s0_0 bt151.2 20).bind fun bt153 => (if bt153.1 = 0 then ((spec_l1Pick.f s0_0 bt153.2 (([0, 999, 1000] : List Int))).bind fun bt158 => (if 0 ≤ bt151.1 then (if bt151.1 < (bt147.1.length : Int) then (some ((bt147.1.set (bt151.1 : Int).toNat (⟨bt158.1, (rd_T51 bt147.1 bt151.1).f1, (rd_T51 bt147.1 bt151.1).f2, (rd_T51 bt147.1 bt151.1).f3⟩ : S51)), bt158.2)) else (none)) else (none))) else (if bt153.1 = 1 then ((spec_l1Pick.f s0_0 bt153.2 (([0, (-1), 1000000, 1000001] : List Int))).bind fun bt164 => (if 0 ≤ bt151.1 then (if bt151.1 < (bt147.1.length : Int) then (some ((bt147.1.set (bt151.1 : Int).toNat (⟨(rd_T51 bt147.1 bt151.1).f0, bt164.1, (rd_T51 bt147.1 bt151.1).f2, (rd_T51 bt147.1 bt151.1).f3⟩ : S51)), bt164.2)) else (none)) else (none))) else (if bt153.1 = 2 then ((spec_l1Pick.f s0_0 bt153.2 (([(-1), 9999, 10000] : List Int))).bind fun bt170 => (if 0 ≤ bt151.1 then (if bt151.1 < (bt147.1.length : Int) then (some ((bt147.1.set (bt151.1 : Int).toNat (⟨(rd_T51 bt147.1 bt151.1).f0, (rd_T51 bt147.1 bt151.1).f1, (rd_T51 bt147.1 bt151.1).f2, bt170.1⟩ : S51)), bt170.2)) else (none)) else (none))) else (if bt153.1 = 3 then (if 0 ≤ bt151.1 then (if bt151.1 < (bt147.1.length : Int) then (some ((bt147.1.set (bt151.1 : Int).toNat (⟨(rd_T51 bt147.1 bt151.1).f0, (rd_T51 bt147.1 bt151.1).f1, !((rd_T51 bt147.1 bt151.1).f2), (rd_T51 bt147.1 bt151.1).f3⟩ : S51)), bt153.2)) else (none)) else (none)) else (if bt153.1 = 4 then (some ((List.replicate 13 z51), bt153.2)) else (some (bt147.1, bt153.2))))))))))

/-! ### impl_within: function 42 -/
def impl_within.f (a0 : Int) (a1 : Int) (a2 : Int) : Option (Bool) := if a1 ≤ a0 then (some (decide (a0 ≤ a2))) else (some false)

/-! ### impl_isLsn: function 23 -/
def impl_isLsn.f (a0 : Int) : Option (Bool) := (impl_within.f a0 0 1000000).bind fun t194 => (some t194)

/-! ### impl_isTxn: function 28 -/
def impl_isTxn.f (a0 : Int) : Option (Bool) := (impl_within.f a0 1 999).bind fun t195 => (some t195)

/-! ### impl_isValue: function 29 -/
def impl_isValue.f (a0 : Int) : Option (Bool) := (impl_within.f a0 0 9999).bind fun t196 => (some t196)

/-! ### impl_ChainFault: function 9 -/
mutual
def impl_ChainFault.l0 : Nat → List (S51) → List (S51) → Int → Int → Option (Int)
  | 0, _, _, _, _ => none
  | k + 1, x0, x8, x9, x10 => if x10 < x9 then (if 0 ≤ x10 then (if x10 < (x8.length : Int) then ((impl_isTxn.f ((rd_T51 x8 x10).f0)).bind fun t199 => (if t199 = true then ((impl_isLsn.f ((rd_T51 x8 x10).f1)).bind fun t200 => (if t200 = true then ((impl_isValue.f ((rd_T51 x8 x10).f3)).bind fun t201 => (impl_ChainFault.j1 k x0 x10 x8 x9 x10 (!t201) ((rd_T51 x8 x10).f0) ((rd_T51 x8 x10).f1) ((rd_T51 x8 x10).f2) ((rd_T51 x8 x10).f3))) else (impl_ChainFault.j1 k x0 x10 x8 x9 x10 true ((rd_T51 x8 x10).f0) ((rd_T51 x8 x10).f1) ((rd_T51 x8 x10).f2) ((rd_T51 x8 x10).f3)))) else (impl_ChainFault.j1 k x0 x10 x8 x9 x10 true ((rd_T51 x8 x10).f0) ((rd_T51 x8 x10).f1) ((rd_T51 x8 x10).f2) ((rd_T51 x8 x10).f3)))) else (none)) else (none)) else (some 0)
def impl_ChainFault.j1 : Nat → List (S51) → Int → List (S51) → Int → Int → Bool → Int → Int → Bool → Int → Option (Int)
  | 0, _, _, _, _, _, _, _, _, _, _ => none
  | k + 1, x0, x3, x8, x9, x10, x15, x199000, x199001, x199002, x199003 => if x15 = true then (some 3) else (if x199002 = true then (impl_ChainFault.j2 k x0 x3 x8 x9 x10 (x199003 != 0) x199000 x199001 x199002 x199003) else (impl_ChainFault.j2 k x0 x3 x8 x9 x10 false x199000 x199001 x199002 x199003))
def impl_ChainFault.j2 : Nat → List (S51) → Int → List (S51) → Int → Int → Bool → Int → Int → Bool → Int → Option (Int)
  | 0, _, _, _, _, _, _, _, _, _, _ => none
  | k + 1, x0, x3, x8, x9, x10, x32, x199000, x199001, x199002, x199003 => if x32 = true then (some 1) else (if x199001 = 0 then (impl_ChainFault.j3 k x0 x3 x8 x9 x10 (decide (x3 > 0)) x199000 x199001 x199002 x199003) else (impl_ChainFault.j3 k x0 x3 x8 x9 x10 false x199000 x199001 x199002 x199003))
def impl_ChainFault.j3 : Nat → List (S51) → Int → List (S51) → Int → Int → Bool → Int → Int → Bool → Int → Option (Int)
  | 0, _, _, _, _, _, _, _, _, _, _ => none
  | k + 1, x0, x3, x8, x9, x10, x32, x199000, x199001, x199002, x199003 => if x32 = true then (some 1) else (if x3 > 0 then (if 0 ≤ (wrap64 (x3 - 1)) then (if (wrap64 (x3 - 1)) < (x0.length : Int) then (if ((rd_T51 x0 (wrap64 (x3 - 1))).f1) = 0 then (impl_ChainFault.l0 k x0 x8 x9 (wrap64 (x10 + 1))) else (if x199001 ≥ ((rd_T51 x0 (wrap64 (x3 - 1))).f1) then (some 1) else (impl_ChainFault.l0 k x0 x8 x9 (wrap64 (x10 + 1))))) else (none)) else (none)) else (impl_ChainFault.l0 k x0 x8 x9 (wrap64 (x10 + 1))))
end
def impl_ChainFault.f (k : Nat) (l0 : List (S51)) : Option (Int) := if (l0.length : Int) > 12 then (some 2) else (impl_ChainFault.l0 k l0 l0 (l0.length : Int) 0)

/-! ### spec_l1In: function 26 -/
def spec_l1In.f (a0 : Int) (a1 : Int) (a2 : Int) : Option (Bool) := if a0 ≥ a1 then (some (decide (a0 ≤ a2))) else (some false)

/-! ### spec_l1Value: function 39 -/
def spec_l1Value.f (a0 : Int) : Option (Bool) := (spec_l1In.f a0 0 9999).bind fun t230 => (some t230)

/-! ### spec_l5Txn: function 44 -/
def spec_l5Txn.f (a0 : Int) : Option (Bool) := (spec_l1In.f a0 1 999).bind fun t231 => (some t231)

/-! ### spec_l5At: function 45 -/
def spec_l5At.f (a0 : Int) : Option (Bool) := (spec_l1In.f a0 1 1000000).bind fun t232 => (some t232)

/-! ### spec_ChainFault: function 25 -/
mutual
def spec_ChainFault.l0 : Nat → List (S51) → Int → Option (Int)
  | 0, _, _ => none
  | k + 1, x0, x3 => if x3 < (x0.length : Int) then (if 0 ≤ x3 then ((spec_l5Txn.f ((rd_T51 x0 x3).f0)).bind fun t235 => (if t235 = true then (if ((rd_T51 x0 x3).f1) = 0 then ((spec_l1Value.f ((rd_T51 x0 x3).f3)).bind fun t236 => (spec_ChainFault.j1 k x0 x3 (!t236) ((rd_T51 x0 x3).f0) ((rd_T51 x0 x3).f1) ((rd_T51 x0 x3).f2) ((rd_T51 x0 x3).f3))) else ((spec_l5At.f ((rd_T51 x0 x3).f1)).bind fun t237 => (if t237 = true then ((spec_l1Value.f ((rd_T51 x0 x3).f3)).bind fun t238 => (spec_ChainFault.j1 k x0 x3 (!t238) ((rd_T51 x0 x3).f0) ((rd_T51 x0 x3).f1) ((rd_T51 x0 x3).f2) ((rd_T51 x0 x3).f3))) else (spec_ChainFault.j1 k x0 x3 true ((rd_T51 x0 x3).f0) ((rd_T51 x0 x3).f1) ((rd_T51 x0 x3).f2) ((rd_T51 x0 x3).f3))))) else (spec_ChainFault.j1 k x0 x3 true ((rd_T51 x0 x3).f0) ((rd_T51 x0 x3).f1) ((rd_T51 x0 x3).f2) ((rd_T51 x0 x3).f3)))) else (none)) else (some 0)
def spec_ChainFault.j1 : Nat → List (S51) → Int → Bool → Int → Int → Bool → Int → Option (Int)
  | 0, _, _, _, _, _, _, _ => none
  | k + 1, x0, x3, x38, x235000, x235001, x235002, x235003 => if x38 = true then (some 3) else (if x235002 = true then (if x235003 = 0 then (if x235001 = 0 then (if x3 > 0 then (some 1) else (spec_ChainFault.l0 k x0 (wrap64 (x3 + 1)))) else (if x3 > 0 then (if 0 ≤ (wrap64 (x3 - 1)) then (if (wrap64 (x3 - 1)) < (x0.length : Int) then (if ((rd_T51 x0 (wrap64 (x3 - 1))).f1) = 0 then (spec_ChainFault.l0 k x0 (wrap64 (x3 + 1))) else (if x235001 ≥ ((rd_T51 x0 (wrap64 (x3 - 1))).f1) then (some 1) else (spec_ChainFault.l0 k x0 (wrap64 (x3 + 1))))) else (none)) else (none)) else (spec_ChainFault.l0 k x0 (wrap64 (x3 + 1))))) else (some 1)) else (if x235001 = 0 then (if x3 > 0 then (some 1) else (spec_ChainFault.l0 k x0 (wrap64 (x3 + 1)))) else (if x3 > 0 then (if 0 ≤ (wrap64 (x3 - 1)) then (if (wrap64 (x3 - 1)) < (x0.length : Int) then (if ((rd_T51 x0 (wrap64 (x3 - 1))).f1) = 0 then (spec_ChainFault.l0 k x0 (wrap64 (x3 + 1))) else (if x235001 ≥ ((rd_T51 x0 (wrap64 (x3 - 1))).f1) then (some 1) else (spec_ChainFault.l0 k x0 (wrap64 (x3 + 1))))) else (none)) else (none)) else (spec_ChainFault.l0 k x0 (wrap64 (x3 + 1))))))
end
def spec_ChainFault.f (k : Nat) (l0 : List (S51)) : Option (Int) := if (l0.length : Int) > 12 then (some 2) else (spec_ChainFault.l0 k l0 0)

/-! ### impl_viewCode: function 30 -/
def impl_viewCode.f (k : Nat) (l0 : List (S51)) (a1_0 : Int) (a1_1 : Int) : Option (Int) := (impl_ChainFault.f k l0).bind fun t271 => (if t271 = 0 then ((impl_isLsn.f a1_0).bind fun t272 => (if t272 = true then ((impl_within.f a1_1 0 999).bind fun t273 => (if t273 = true then (some t271) else (some 3))) else (some 3))) else (some t271))

/-! ### slices_IndexFunc_impl_Version: function 52 -/

/-! ### impl_seen: function 48 -/
-- NEEDS Derived.Test.@N@Lb
/-- What a view sees. -/
def impl_seen.p (at_ own : Int) (x : S51) : Bool := (x.f1 == 0 && x.f0 == own) || (decide (x.f1 > 0) && decide (x.f1 ≤ at_))
def impl_seen.f (l0 : List S51) (a1_0 a1_1 : Int) : Option (Int) := some (Go.Proofs.Ytkaammmkejiafaa.Lb.idx (impl_seen.p a1_0 a1_1) l0)

/-! ### impl_seenValue: function 31 -/
def impl_seenValue.f (l0 : List (S51)) (a1_0 : Int) (a1_1 : Int) : Option (Int × Int) := (impl_seen.f l0 a1_0 a1_1).bind fun t276 => (if t276 < 0 then (some (4, 0)) else (if 0 ≤ t276 then (if t276 < (l0.length : Int) then (if (rd_T51 l0 t276).f2 = true then (some (4, 0)) else (some (0, (rd_T51 l0 t276).f3))) else (none)) else (none)))

/-! ### impl_SeenIn: function 10 -/
def impl_SeenIn.f (k : Nat) (l0 : List (S51)) (a1_0 : Int) (a1_1 : Int) : Option (Int × Int) := (impl_viewCode.f k l0 a1_0 a1_1).bind fun t281 => (if t281 = 0 then ((impl_seenValue.f l0 a1_0 a1_1).bind fun bt282 => (some (bt282.1, bt282.2))) else (some (t281, 0)))

/-! ### impl_mayWrite: function 32 -/
def impl_mayWrite.f (l0 : List (S51)) (a1_0 : Int) (a1_1 : Int) : Option (Int) := if (l0.length : Int) > 0 then (if 0 < (l0.length : Int) then (if ((rd_T51 l0 0).f1) = 0 then (if ((rd_T51 l0 0).f0) = a1_1 then (if ((rd_T51 l0 0).f1) > a1_0 then (some 9) else (some 0)) else (some 9)) else (if ((rd_T51 l0 0).f1) > a1_0 then (some 9) else (some 0))) else (none)) else (some 0)

/-! ### impl_MayWrite: function 11 -/
def impl_MayWrite.j0 : Nat → List (S51) → Int → Bool → Int → Int → Option (Int)
  | 0, _, _, _, _, _ => none
  | k + 1, x0, x5, x15, x290000, x290001 => if x15 = true then (some 3) else (if x5 = 0 then ((impl_mayWrite.f x0 x290000 x290001).bind fun t291 => (some t291)) else (some x5))
def impl_MayWrite.f (k : Nat) (l0 : List (S51)) (a1_0 : Int) (a1_1 : Int) : Option (Int) := (impl_viewCode.f k l0 a1_0 a1_1).bind fun t290 => (if t290 = 0 then (impl_MayWrite.j0 k l0 t290 (a1_1 == 0) a1_0 a1_1) else (impl_MayWrite.j0 k l0 t290 false a1_0 a1_1))

end Go.Proofs.Ytkaammmkejiafaa.P
