import Derived.Test.YtihkemlgdfjmjaaDoorSQ
import Derived.Test.YtihkemlgdfjmjaaDoorST
import Derived.Test.YtihkemlgdfjmjaaDoorSL
set_option maxHeartbeats 4000000
set_option maxRecDepth 100000
set_option linter.unusedVariables false
set_option linter.unusedSimpArgs false
namespace Go.Proofs.Tryd
open Go Go.Ot

def hk (H : List UInt8 → List UInt8 → List UInt8) (key info : List UInt8) : Nat → List UInt8
  | 0 => []
  | k + 1 => H key (hk H key info k ++ info ++ [UInt8.ofNat (k + 1)])
def hkAll (H : List UInt8 → List UInt8 → List UInt8) (key info : List UInt8) : Nat → List UInt8
  | 0 => []
  | k + 1 => hkAll H key info k ++ hk H key info (k + 1)
theorem hk_len {H : List UInt8 → List UInt8 → List UInt8} (hH : ∀ k s, (H k s).length = 32) (key info : List UInt8) (k : Nat) : (hk H key info k).length ≤ 32 ∧ (0 < k → (hk H key info k).length = 32) := by
  cases k with
  | zero => simp [hk]
  | succ k => simp [hk, hH]
theorem hkAll_len {H : List UInt8 → List UInt8 → List UInt8} (hH : ∀ k s, (H k s).length = 32) (key info : List UInt8) (k : Nat) : (hkAll H key info k).length = 32 * k := by
  induction k with
  | zero => rfl
  | succ k ih => simp [hkAll, ih, (hk_len hH key info (k + 1)).2]; omega
def adr (m : Nm) : Nat → D
  | 0 => .t (.v (.pointer none))
  | _ + 1 => .ptr m 0
@[push_cast] theorem adr_0 (m : Nm) : adr m 0 = .t (.v (.pointer none)) := rfl
@[push_cast] theorem adr_1 (m : Nm) (k : Nat) : adr m (k + 1) = .ptr m 0 := rfl
/-- Derive's answer. -/
def derB (H : List UInt8 → List UInt8 → List UInt8) (a b c : List UInt8) (n : Nat) : List UInt8 := (hkAll H (H a b) c ((n + 31) / 32)).take n

end Go.Proofs.Tryd
