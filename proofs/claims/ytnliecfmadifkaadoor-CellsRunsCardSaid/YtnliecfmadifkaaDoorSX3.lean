/- Contracts of this program's functions. -/
import Derived.Test.YtnliecfmadifkaaDoorSX2
import Derived.Test.YtnliecfmadifkaaDoorSL1
import Derived.Test.YtnliecfmadifkaaDoorOtF
set_option maxHeartbeats 4000000
set_option maxRecDepth 100000
set_option linter.unusedVariables false
set_option linter.unusedSimpArgs false
namespace Go.Proofs.Tryd
open Go Go.Ot

structure Ac where
  k : Int
  i : Int
  x : List UInt8
  c : Int
  ks : List Bool
instance : Inhabited Ac := ⟨⟨0, 0, [], 0, []⟩⟩
def acT (a : Ac) : List T := [num a.k, num a.i, txt a.x, num a.c, lst bol a.ks]
theorem acT_len (a : Ac) : (acT a).length = 5 := rfl
@[push_cast] theorem acs_len (l : List Ac) : (l.flatMap acT).length = l.length * 5 := rows_len acT_len l
theorem ac_rows_drop {α : Type} [Inhabited α] {f : α → List T} {k : Nat} (hf : ∀ a, (f a).length = k) {l : List α} {i : Nat} (h : i < l.length) : (l.flatMap f).drop (i * k) = f (l.getD i default) ++ (l.flatMap f).drop (i * k + k) := by
  rw [← rows_at hf h, ← List.drop_drop, List.take_append_drop]
@[push_cast] theorem ac_drop {l : List Ac} {i : Nat} (h : i < l.length) : (l.flatMap acT).drop (i * 5) = num (l.getD i default).k :: num (l.getD i default).i :: txt (l.getD i default).x :: num (l.getD i default).c :: lst bol (l.getD i default).ks :: (l.flatMap acT).drop (i * 5 + 5) := ac_rows_drop acT_len h
def acP (a : Ac) : Prop := a.i ≤ 9223372036854775807 ∧ a.c ≤ 9223372036854775807 ∧ a.ks.length ≤ maxLen
def rowM (z : Bool) (nm : Nm) (l : Chs) (L : List (Nm × Ob)) : List (Nm × Ob) := if z = true then L else putL nm ⟨(chL l).map D.t, 67, true, true⟩ L
@[push_cast] theorem rowM_t (nm : Nm) (l : Chs) (L : List (Nm × Ob)) : rowM true nm l L = L := rfl
@[push_cast] theorem rowM_f (nm : Nm) (l : Chs) (L : List (Nm × Ob)) : rowM false nm l L = putL nm ⟨(chL l).map D.t, 67, true, true⟩ L := rfl
/-- after i acts: are there no loose changes, is it down, the kept texts, the loose changes, the write it stops at, the writes counted, the writes the reference has left -/
abbrev RQ := Bool × Bool × St4 × Chs × Int × Int × Int
def RI (n : Nat) (q : RQ) : Prop := q.2.2.2.1.length ≤ n ∧ In4 q.2.2.2.1 ∧ (q.1 = true → q.2.2.2.1 = []) ∧ 0 ≤ q.2.2.2.2.2.1 ∧ q.2.2.2.2.2.1 ≤ n ∧ q.2.2.2.2.1 ≤ 9223372036854775807 ∧ q.2.2.2.2.2.2 = max 0 (q.2.2.2.2.1 - q.2.2.2.2.2.1)
theorem RI_up {n : Nat} {q : RQ} (h : RI n q) : RI (n + 1) q := by
  obtain ⟨h1, h2, h3, h4, h5, h6, h7⟩ := h
  exact ⟨by omega, h2, h3, h4, by omega, h6, h7⟩

end Go.Proofs.Tryd
