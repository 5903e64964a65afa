/- Records in bytes: what both sides come to. -/
import Derived.Test.YthagppmaofcllaaLb
import Derived.Test.YthagppmaofcllaaQf
import Derived.Test.YthagppmaofcllaaQsum
import Derived.Test.YthagppmaofcllaaQr
import Derived.Test.YthagppmaofcllaaQk
import Derived.Test.YthagppmaofcllaaP0
import Derived.Test.YthagppmaofcllaaPDadefgh0
namespace Go.Proofs.Ythagppmaofcllaa.Q
open Go.RowKit Go.Proofs.Ythagppmaofcllaa.P Go.Proofs.YthagppmaofcllaaW.PrintWords Go.Proofs.YthagppmaofcllaaW.PrintLast Go.Proofs.YthagppmaofcllaaW.PrintMore Go.Proofs.Ythagppmaofcllaa.Lb
set_option linter.unusedVariables false
set_option linter.unusedSimpArgs false
def flagB (a3 a5 : Bool) : Int := (if a3 = true then 1 else 0) + (if a5 = true then 2 else 0)
def bodyR (a0 a1 a2 : Int) (a3 : Bool) (a4 : Int) (a5 : Bool) (a6 a7 : Int) : List Int := bytesN a0 1 ++ bytesN a1 2 ++ bytesN a2 1 ++ bytesN (flagB a3 a5) 1 ++ bytesN a4 2 ++ bytesN a6 2 ++ bytesN a7 2
def packR (a0 a1 a2 : Int) (a3 : Bool) (a4 : Int) (a5 : Bool) (a6 a7 : Int) : List Int := bodyR a0 a1 a2 a3 a4 a5 a6 a7 ++ bytesN (sumB (bodyR a0 a1 a2 a3 a4 a5 a6 a7)) 2
theorem bodyR_len (a0 a1 a2 : Int) (a3 : Bool) (a4 : Int) (a5 : Bool) (a6 a7 : Int) : (bodyR a0 a1 a2 a3 a4 a5 a6 a7).length = 11 := by simp [bodyR, bytesN_len]
theorem packR_len (a0 a1 a2 : Int) (a3 : Bool) (a4 : Int) (a5 : Bool) (a6 a7 : Int) : (packR a0 a1 a2 a3 a4 a5 a6 a7).length = 13 := by simp [packR, bodyR_len, bytesN_len]
theorem specPackR (a0 a1 a2 : Int) (a3 : Bool) (a4 : Int) (a5 : Bool) (a6 a7 : Int) : Ev (fun k => Zsl3Pack.f k a0 a1 a2 a3 a4 a5 a6 a7) (packR a0 a1 a2 a3 a4 a5 a6 a7) := by
  have key1 : Ev (fun k => Zsl3Pack.j1 k (flagB a3 a5) a0 a1 a2 a3 a4 a5 a6 a7) (packR a0 a1 a2 a3 a4 a5 a6 a7) := by
    refine evSucc ?_
    simp only [Zsl3Pack.j1, Option.bind_some]
    refine evCall (specBytes a1 2 (by omega)) (evIte (fun _ => evIte (fun _ => ?_) (fun h => absurd (by simp [bytesN_len]) h)) (fun h => absurd (by simp [bytesN_len]) h))
    refine evCall (specBytes a4 2 (by omega)) (evIte (fun _ => ?_) (fun h => absurd (by simp [bytesN_len]) h))
    refine evCall (specBytes a6 2 (by omega)) (evIte (fun _ => ?_) (fun h => absurd (by simp [bytesN_len]) h))
    refine evCall (specBytes a7 2 (by omega)) (evIte (fun _ => ?_) (fun h => absurd (by simp [bytesN_len]) h))
    have ef : flagB a3 a5 % 256 = flagB a3 a5 := by cases a3 <;> cases a5 <;> rfl
    have e : [a0 % 256] ++ bytesN a1 2 ++ [a2 % 256, flagB a3 a5] ++ bytesN a4 2 ++ bytesN a6 2 ++ bytesN a7 2 = bodyR a0 a1 a2 a3 a4 a5 a6 a7 := by simp [bodyR, bytes1, ef]
    simp only [e]
    have hl := bodyR_len a0 a1 a2 a3 a4 a5 a6 a7
    exact evCall (specSum _ (by omega)) (evCall (specBytes _ 2 (by omega)) (evIte (fun _ => evRet rfl) (fun h => absurd (by simp [bytesN_len, hl]) h)))
  have key0 : ∀ x : Int, x = (if a3 = true then 1 else 0) → Ev (fun k => Zsl3Pack.j0 k x a0 a1 a2 a3 a4 a5 a6 a7) (packR a0 a1 a2 a3 a4 a5 a6 a7) := by
    intro x hx
    refine evSucc ?_
    simp only [Zsl3Pack.j0]
    refine evIte (fun h => ?_) (fun h => ?_)
    · rw [show (x + 2) % 256 = flagB a3 a5 by subst hx; subst h; cases a3 <;> rfl]; exact key1
    · rw [show x = flagB a3 a5 by subst hx; simp only [flagB, if_neg h, Int.add_zero]]; exact key1
  unfold Zsl3Pack.f
  exact evIte (fun h => key0 1 (by rw [if_pos h])) (fun h => key0 0 (by rw [if_neg h]))
theorem implFlag (b : Bool) (n : Int) : Ziflag.f b n = some (if b = true then n else 0) := by
  unfold Ziflag.f
  cases b <;> rfl
theorem implPackR (a0 a1 a2 : Int) (a3 : Bool) (a4 : Int) (a5 : Bool) (a6 a7 : Int) : Ev (fun k => ZiRec_pack.f k a0 a1 a2 a3 a4 a5 a6 a7) (packR a0 a1 a2 a3 a4 a5 a6 a7) := by
  unfold ZiRec_pack.f
  have ef : wrap64 ((if a3 = true then 1 else 0) + (if a5 = true then 2 else 0)) = flagB a3 a5 := by unfold flagB; rw [w64 (by split <;> split <;> omega) (by split <;> split <;> omega)]
  refine evCall (implPut [] a0 1 (by omega) (by simp)) (evCall (implPut _ a1 2 (by omega) (by simp [bytesN_len])) (evCall (implPut _ a2 1 (by omega) (by simp [bytesN_len])) ?_))
  refine evSeq (implFlag a3 1) (evSeq (implFlag a5 2) ?_)
  simp only [ef]
  refine evCall (implPut _ _ 1 (by omega) (by simp [bytesN_len])) (evCall (implPut _ a4 2 (by omega) (by simp [bytesN_len])) (evCall (implPut _ a6 2 (by omega) (by simp [bytesN_len])) (evCall (implPut _ a7 2 (by omega) (by simp [bytesN_len])) ?_)))
  have e : [] ++ bytesN a0 1 ++ bytesN a1 2 ++ bytesN a2 1 ++ bytesN (flagB a3 a5) 1 ++ bytesN a4 2 ++ bytesN a6 2 ++ bytesN a7 2 = bodyR a0 a1 a2 a3 a4 a5 a6 a7 := by simp [bodyR]
  rw [e]
  have hl := bodyR_len a0 a1 a2 a3 a4 a5 a6 a7
  exact evCall (implSum _ (by omega)) (evCall (implPut _ _ 2 (by omega) (by omega)) (evRet rfl))
def pkR (a0 a1 a2 : Int) (a3 : Bool) (a4 : Int) (a5 : Bool) (a6 a7 : Int) : Int × List Int := if rf a0 a1 a2 a3 a4 a5 a6 a7 = 0 then (0, packR a0 a1 a2 a3 a4 a5 a6 a7) else (rf a0 a1 a2 a3 a4 a5 a6 a7, [])
theorem pkR_len (a0 a1 a2 : Int) (a3 : Bool) (a4 : Int) (a5 : Bool) (a6 a7 : Int) : (pkR a0 a1 a2 a3 a4 a5 a6 a7).2.length ≤ 13 := by
  unfold pkR
  split
  · have := packR_len a0 a1 a2 a3 a4 a5 a6 a7
    simp only; omega
  · simp
end Go.Proofs.Ythagppmaofcllaa.Q
