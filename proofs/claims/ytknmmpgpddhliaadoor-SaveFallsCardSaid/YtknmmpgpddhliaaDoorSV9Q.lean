/- Contracts of this program's functions. -/
import Derived.Test.YtknmmpgpddhliaaDoorSV1
set_option maxHeartbeats 4000000
set_option maxRecDepth 100000
set_option linter.unusedVariables false
set_option linter.unusedSimpArgs false
namespace Go.Proofs.Tryd
open Go Go.Ot

open Ce
theorem fall_yes {s : Nat → List UInt8} {m : Nat} {x : List UInt8} {ks : List Bool} (h : 0 < ks.length ∧ ks.getD (0 % ks.length) default = true) : fallF s [(m, x)] ks [(m, x)].length = Ce.upd s m x := by
  show fallF s [(m, x)] ks (0 + 1) = _
  rw [fallF_yes h.1 h.2]; rfl
theorem fall_no {s : Nat → List UInt8} {m : Nat} {x : List UInt8} {ks : List Bool} (h : ¬ (0 < ks.length ∧ ks.getD (0 % ks.length) default = true)) : fallF s [(m, x)] ks [(m, x)].length = s := by
  show fallF s [(m, x)] ks (0 + 1) = _
  rw [fallF_no h]; rfl
theorem Kp_one' (s : List UInt8) : Kp (Ce.upd (fun _ => []) 1 (enc (0 + 1) s)) 1 s := Kp_next (u := s) Kp_0

end Go.Proofs.Tryd
