/- Contracts of this program's functions. -/
import Derived.Test.YtknmmpgpddhliaaDoorSV1
import Derived.Test.YtknmmpgpddhliaaDoorOtE
set_option maxHeartbeats 4000000
set_option maxRecDepth 100000
set_option linter.unusedVariables false
set_option linter.unusedSimpArgs false
namespace Go.Proofs.Tryd
open Go Go.Ot

open Ce
def loD (z : Bool) (nm : Nm) (n : Nat) : D := if z = true then .t (.v (.slice none 0 0)) else .msl nm 0 n 2
@[push_cast] theorem loD_t (nm : Nm) (n : Nat) : loD true nm n = .t (.v (.slice none 0 0)) := rfl
@[push_cast] theorem loD_f (nm : Nm) (n : Nat) : loD false nm n = .msl nm 0 n 2 := rfl
def rowL (z : Bool) (nm : Nm) (l : Chs) (L : List (Nm × Ob)) : List (Nm × Ob) := if z = true then L else putL nm ⟨(chL l).map D.t, 56, true, true⟩ L
@[push_cast] theorem rowL_t (nm : Nm) (l : Chs) (L : List (Nm × Ob)) : rowL true nm l L = L := rfl
@[push_cast] theorem rowL_f (nm : Nm) (l : Chs) (L : List (Nm × Ob)) : rowL false nm l L = putL nm ⟨(chL l).map D.t, 56, true, true⟩ L := rfl
abbrev FQ := Nat × Bool × Bool × Nat × (Nat → List UInt8) × List UInt8 × List UInt8 × Int × Nat
def FI (n : Nat) (q : FQ) : Prop := q.1 ≤ n ∧ q.2.2.2.1 ≤ q.1 ∧ Kp q.2.2.2.2.1 q.2.2.2.1 q.2.2.2.2.2.1 ∧ (q.2.2.1 = false → q.2.1 = true ∧ q.2.2.2.2.2.2.2.1 = 2 * (q.2.2.2.1 : Int)) ∧ (q.2.1 = false → (q.2.2.2.1 + 1) % 2 = q.2.2.2.2.2.2.2.2)
abbrev MQ := Bool × Bool × Nat × (Nat → List UInt8) × List UInt8 × List UInt8 × Int × Nat
def MI (n : Nat) (q : MQ) : Prop := q.2.2.1 ≤ n ∧ Kp q.2.2.2.1 q.2.2.1 q.2.2.2.2.1 ∧ (q.1 = false → (q.2.2.1 + 1) % 2 = q.2.2.2.2.2.2.2 ∧ q.2.1 = true)
abbrev LQ := Nat × Bool × (Nat → List UInt8) × Nat × List UInt8 × Int × Int × Bool
def LI (n kk : Nat) (held next : List UInt8) (q : LQ) : Prop := q.1 ≤ n ∧ Kp q.2.2.1 q.2.2.2.1 q.2.2.2.2.1 ∧ q.2.2.2.1 ≤ kk ∧ (q.2.2.2.2.1 = held ∨ q.2.2.2.2.1 = next)
def LR (n k : Nat) (s0 : Nat → List UInt8) (held next : List UInt8) (q : LQ) : Prop := LI n (k + 1) held next q ∧ (q.2.1 = false → s0 = q.2.2.1 ∧ k = q.2.2.2.1 ∧ held = q.2.2.2.2.1)

end Go.Proofs.Tryd
