/- Contracts of this program's functions. -/
import Derived.Test.YtknmmpgpddhliaaDoorSV1
set_option maxHeartbeats 4000000
set_option maxRecDepth 100000
set_option linter.unusedVariables false
set_option linter.unusedSimpArgs false
namespace Go.Proofs.Tryd
open Go Go.Ot

def dgA (u : Nat) (s : List UInt8) : List UInt8 := if h : u < 10 then UInt8.ofInt (48 + (u : Int)) :: s else dgA (u / 10) (UInt8.ofInt (48 + (u : Int) % 10) :: s)
termination_by u
decreasing_by omega
theorem dgA_lt {u : Nat} {s : List UInt8} (h : u < 10) : dgA u s = UInt8.ofInt (48 + (u : Int)) :: s := by rw [dgA, dif_pos h]
theorem dgA_ge {u : Nat} {s : List UInt8} (h : 10 ≤ u) : dgA u s = dgA (u / 10) (UInt8.ofInt (48 + (u : Int) % 10) :: s) := by
  conv => lhs; rw [dgA]
  rw [dif_neg (by omega)]
theorem dgA_len : ∀ (n u : Nat) (s : List UInt8), u ≤ n → (dgA u s).length ≤ u + s.length + 1
  | n, u, s, h => by
    rcases Nat.lt_or_ge u 10 with h1 | h1
    · rw [dgA_lt h1, List.length_cons]; omega
    · rw [dgA_ge h1]
      match n, h with
      | 0, h => omega
      | n + 1, h =>
        have := dgA_len n (u / 10) (UInt8.ofInt (48 + (u : Int) % 10) :: s) (by omega)
        rw [List.length_cons] at this
        omega

end Go.Proofs.Tryd
