import Derived.Test.YtihkemlgdfjmjaaDoorSJ
import Derived.Test.YtihkemlgdfjmjaaDoorOtCopy
set_option maxHeartbeats 4000000
set_option maxRecDepth 100000
set_option linter.unusedVariables false
set_option linter.unusedSimpArgs false
namespace Go.Proofs.Tryd
open Go Go.Ot
attribute [local irreducible] wpK wpS seqK blockK loopF regK meetK OpSpec Le

def keyB (key : List UInt8) : List UInt8 := key.take 64 ++ (List.replicate 64 0).drop (key.take 64).length
theorem keyB_len (key : List UInt8) : (keyB key).length = 64 := by simp [keyB]; omega
def xorTo (k : List UInt8) (b : UInt8) : Nat → List UInt8
  | 0 => k
  | i + 1 => (xorTo k b i).set i ((xorTo k b i).getD i 0 ^^^ b)
theorem xorTo_len (k : List UInt8) (b : UInt8) : ∀ i, (xorTo k b i).length = k.length
  | 0 => rfl
  | i + 1 => by simp [xorTo, xorTo_len k b i]
def keyOf (key : List UInt8) : List UInt8 := if 64 < key.length then sha key else key
/-- A sum by a key. -/
def hmacB (key s : List UInt8) : List UInt8 := sha (xorTo (keyB (keyOf key)) 92 64 ++ sha (xorTo (keyB (keyOf key)) 54 64 ++ s))
theorem hmacB_len (key s : List UInt8) : (hmacB key s).length = 32 := sha_len _
attribute [push_cast] keyB_len xorTo_len sha_len hmacB_len
theorem flat_cons {α : Type} (a : List α) (l : List (List α)) : (a :: l).flatten = a ++ l.flatten := List.flatten_cons
theorem flat_one {α : Type} (s : List α) : [s].flatten = s := by simp
theorem flat_two {α : Type} (s t : List α) : [s, t].flatten = s ++ t := by simp
def orTo (a b : List UInt8) : Nat → UInt8
  | 0 => 0
  | i + 1 => orTo a b i ||| (a.getD i 0 ^^^ b.getD i 0)
theorem orTo_zero (a b : List UInt8) : ∀ n, orTo a b n = 0 ↔ ∀ i, i < n → a.getD i 0 = b.getD i 0
  | 0 => by simp [orTo]
  | n + 1 => by
    have ih := orTo_zero a b n
    rw [orTo, UInt8.or_eq_zero_iff, UInt8.xor_eq_zero_iff, ih]
    constructor
    · rintro ⟨h1, h2⟩ i hi
      by_cases e : i = n
      · subst e; exact h2
      · exact h1 i (by omega)
    · intro h
      exact ⟨fun i hi => h i (by omega), h n (by omega)⟩
theorem orTo_eq {a b : List UInt8} (h : a.length = b.length) : orTo a b a.length = 0 ↔ a = b := by
  rw [orTo_zero]
  constructor
  · intro hh
    apply List.ext_getElem h
    intro i h1 h2
    have := hh i h1
    simpa [List.getD_eq_getElem?_getD, List.getElem?_eq_getElem h1, List.getElem?_eq_getElem h2] using this
  · rintro rfl i _; rfl
theorem toNat_zero8n (x : UInt8) : x.toNat = 0 ↔ x = 0 := ⟨fun h => UInt8.toNat_inj.1 (by rw [h]; rfl), fun h => by rw [h]; rfl⟩
theorem keyOf_big {key : List UInt8} (h : 64 < key.length) : keyOf key = sha key := if_pos h
theorem keyOf_small {key : List UInt8} (h : ¬ 64 < key.length) : keyOf key = key := if_neg h
theorem toNat_zero8 (x : UInt8) : ((x.toNat : Int) = 0) ↔ x = 0 := by
  constructor
  · intro h
    apply UInt8.toNat_inj.1
    have : x.toNat = 0 := by omega
    rw [this]; rfl
  · rintro rfl; rfl

end Go.Proofs.Tryd
