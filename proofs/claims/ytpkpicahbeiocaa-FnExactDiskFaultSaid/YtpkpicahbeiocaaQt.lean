/- Loops whose rounds call: copied and compared by places. -/
import Derived.Test.YtpkpicahbeiocaaLb
import Derived.Test.YtpkpicahbeiocaaP0
namespace Go.Proofs.Ytpkpicahbeiocaa.Q
open Go.RowKit Go.Proofs.Ytpkpicahbeiocaa.P Go.Proofs.YtpkpicahbeiocaaW.PrintWords Go.Proofs.YtpkpicahbeiocaaW.PrintLast Go.Proofs.YtpkpicahbeiocaaW.PrintMore Go.Proofs.Ytpkpicahbeiocaa.Lb
set_option linter.unusedVariables false
set_option linter.unusedSimpArgs false
section
variable {α β : Type}
theorem mapLoopE {L : Nat → List β → Int → Option (List β)} (c : α → β) (z : β) (xs : List α)
    (hs : ∀ (ys : List β) (i : Nat) (h : i < xs.length) (r : List β), ys.length = xs.length → Ev (fun k => L k (ys.set i (c xs[i])) ((i + 1 : Nat) : Int)) r → Ev (fun k => L k ys (i : Int)) r)
    (he : ∀ (ys : List β), Ev (fun k => L k ys (xs.length : Int)) ys) : Ev (fun k => L k (List.replicate xs.length z) 0) (xs.map c) := by
  have key : ∀ d i, xs.length - i = d → i ≤ xs.length → Ev (fun k => L k ((xs.take i).map c ++ List.replicate (xs.length - i) z) (i : Int)) (xs.map c) := by
    intro d
    induction d with
    | zero =>
      intro i hd hi
      have : i = xs.length := by omega
      subst this
      exact evEq (he _) (by simp)
    | succ d ih =>
      intro i hd hi
      have hlt : i < xs.length := by omega
      have hlen : ((xs.take i).map c ++ List.replicate (xs.length - i) z).length = xs.length := by simp; omega
      have e2 : ((xs.take i).map c ++ List.replicate (xs.length - i) z).set i (c xs[i]) = (xs.take (i + 1)).map c ++ List.replicate (xs.length - (i + 1)) z := by
        rw [List.take_succ_eq_append_getElem hlt, List.map_append, show xs.length - i = (xs.length - (i + 1)) + 1 by omega, List.replicate_succ, List.set_append_right _ _ (by simp; omega), List.length_map, List.length_take, show min i xs.length = i by omega, Nat.sub_self, List.set_cons_zero]
        simp
      refine hs _ i hlt _ hlen ?_
      rw [e2]
      exact ih (i + 1) (by omega) (by omega)
  have := key xs.length 0 (by omega) (by omega)
  simpa using this
theorem allLoopE {ρ : Type} {L : Nat → Int → Option ρ} {r : ρ} (n : Nat) (hs : ∀ (i : Nat), i < n → Ev (fun k => L k ((i + 1 : Nat) : Int)) r → Ev (fun k => L k (i : Int)) r) (he : Ev (fun k => L k (n : Int)) r) : Ev (fun k => L k 0) r := by
  have key : ∀ d i : Nat, n - i = d → i ≤ n → Ev (fun k => L k (i : Int)) r := by
    intro d
    induction d with
    | zero =>
      intro i hd hi
      have : i = n := by omega
      subst this
      exact he
    | succ d ih => exact fun i hd hi => hs i (by omega) (ih (i + 1) (by omega) (by omega))
  simpa using key n 0 (by omega) (by omega)
end
end Go.Proofs.Ytpkpicahbeiocaa.Q
