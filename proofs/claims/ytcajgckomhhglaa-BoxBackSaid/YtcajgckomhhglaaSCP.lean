import Derived.Test.YtcajgckomhhglaaSA
import Derived.Test.YtcajgckomhhglaaOtPtr
set_option maxHeartbeats 4000000
set_option maxRecDepth 100000
set_option linter.unusedVariables false
set_option linter.unusedSimpArgs false
namespace Go.Proofs.Try
open Go Go.Ot

/-! ### chacha, plainly -/
def addL (l : List UInt32) (a b : Nat) : List UInt32 := l.set a (l.getD a 0 + l.getD b 0)
def turnL (l : List UInt32) (a d n : Nat) : List UInt32 := l.set d (lft (l.getD d 0 ^^^ l.getD a 0) n)
def stepL (l : List UInt32) (a b d n : Nat) : List UInt32 := turnL (addL l a b) a d n
def quarL (l : List UInt32) (a b c d : Nat) : List UInt32 := stepL (stepL (stepL (stepL l a b d 16) c d b 12) a b d 8) c d b 7
def colTo (l : List UInt32) : Nat → List UInt32
  | 0 => l
  | i + 1 => quarL (colTo l i) i (4 + i) (8 + i) (12 + i)
def diaTo (l : List UInt32) : Nat → List UInt32
  | 0 => l
  | i + 1 => quarL (diaTo l i) i (4 + (i + 1) % 4) (8 + (i + 2) % 4) (12 + (i + 3) % 4)
def rndTo (l : List UInt32) : Nat → List UInt32
  | 0 => l
  | i + 1 => diaTo (colTo (rndTo l i) 4) 4
theorem addL_len (l : List UInt32) (a b : Nat) : (addL l a b).length = l.length := by simp [addL]
theorem turnL_len (l : List UInt32) (a d n : Nat) : (turnL l a d n).length = l.length := by simp [turnL]
theorem stepL_len (l : List UInt32) (a b d n : Nat) : (stepL l a b d n).length = l.length := by simp [stepL, addL_len, turnL_len]
theorem quarL_len (l : List UInt32) (a b c d : Nat) : (quarL l a b c d).length = l.length := by simp [quarL, stepL_len]
theorem colTo_len (l : List UInt32) : ∀ i, (colTo l i).length = l.length
  | 0 => rfl
  | i + 1 => by simp [colTo, quarL_len, colTo_len l i]
theorem diaTo_len (l : List UInt32) : ∀ i, (diaTo l i).length = l.length
  | 0 => rfl
  | i + 1 => by simp [diaTo, quarL_len, diaTo_len l i]
theorem rndTo_len (l : List UInt32) : ∀ i, (rndTo l i).length = l.length
  | 0 => rfl
  | i + 1 => by simp [rndTo, colTo_len, diaTo_len, rndTo_len l i]
def wrd (s : List UInt8) (i : Nat) : UInt32 := (s.getD i 0).toUInt32 ||| sl32 (s.getD (i + 1) 0).toUInt32 8 ||| sl32 (s.getD (i + 2) 0).toUInt32 16 ||| sl32 (s.getD (i + 3) 0).toUInt32 24
def E16 : List UInt8 := [101, 120, 112, 97, 110, 100, 32, 51, 50, 45, 98, 121, 116, 101, 32, 107]
def initA (key : List UInt8) : Nat → List UInt32
  | 0 => List.replicate 16 0
  | i + 1 => (initA key i).set i (wrd (E16 ++ key) (4 * i))
def initB (key nonce : List UInt8) (c : Nat) : Nat → List UInt32
  | 0 => (initA key 12).set 12 (UInt32.ofInt c)
  | i + 1 => (initB key nonce c i).set (13 + i) (wrd nonce (4 * i))
theorem initA_len (key : List UInt8) : ∀ i, (initA key i).length = 16
  | 0 => by simp [initA]
  | i + 1 => by simp [initA, initA_len key i]
theorem initB_len (key nonce : List UInt8) (c : Nat) : ∀ i, (initB key nonce c i).length = 16
  | 0 => by simp [initB, initA_len]
  | i + 1 => by simp [initB, initB_len key nonce c i]
def by4 (x : UInt32) : Nat → List UInt8
  | 0 => []
  | k + 1 => by4 x k ++ [(sr32 x (8 * k)).toUInt8]
theorem by4_len (x : UInt32) : ∀ k, (by4 x k).length = k
  | 0 => rfl
  | k + 1 => by simp [by4, by4_len x k]
def outC (was w : List UInt32) : Nat → List UInt8
  | 0 => []
  | i + 1 => outC was w i ++ by4 (was.getD i 0 + w.getD i 0) 4
theorem outC_len (was w : List UInt32) : ∀ i, (outC was w i).length = 4 * i
  | 0 => rfl
  | i + 1 => by simp [outC, outC_len was w i, by4_len]; omega
/-- A block of the stream. -/
def chB (key nonce : List UInt8) (c : Nat) : List UInt8 := outC (initB key nonce c 3) (rndTo (initB key nonce c 3) 10) 16
theorem chB_len (key nonce : List UInt8) (c : Nat) : (chB key nonce c).length = 64 := outC_len _ _ 16
/-- A row that is being filled. -/
def fillT {α : Type} (a b : List α) : List α := a ++ b.drop a.length
theorem fillT_len {α : Type} {a b : List α} (h : a.length ≤ b.length) : (fillT a b).length = b.length := by simp [fillT]; omega
theorem fillT_set {α : Type} {a b : List α} (h : a.length < b.length) (x : α) : (fillT a b).set a.length x = fillT (a ++ [x]) b := by
  simp only [fillT]
  rw [List.set_append_right _ _ (Nat.le_refl _), Nat.sub_self]
  have e : b.drop a.length = b[a.length] :: b.drop (a.length + 1) := List.drop_eq_getElem_cons h
  rw [e, List.set_cons_zero]
  simp
/-- Bytes, xor a stream. -/
def xorF (f : Nat → UInt8) (b : List UInt8) : Nat → List UInt8
  | 0 => []
  | i + 1 => xorF f b i ++ [b.getD i 0 ^^^ f i]
theorem xorF_len (f : Nat → UInt8) (b : List UInt8) : ∀ i, (xorF f b i).length = i
  | 0 => rfl
  | i + 1 => by simp [xorF, xorF_len f b i]
def chF (key nonce : List UInt8) (c : Nat) (i : Nat) : UInt8 := (chB key nonce (c + i / 64)).getD (i % 64) 0
def chX (key nonce : List UInt8) (c : Nat) (b : List UInt8) : List UInt8 := xorF (chF key nonce c) b b.length
theorem chX_len (key nonce : List UInt8) (c : Nat) (b : List UInt8) : (chX key nonce c b).length = b.length := xorF_len _ _ _
attribute [push_cast] addL_len turnL_len stepL_len quarL_len colTo_len diaTo_len rndTo_len initA_len initB_len by4_len outC_len chB_len xorF_len chX_len

theorem fold_add (l : List UInt32) (a b : Nat) : l.set a (l.getD a 0 + l.getD b 0) = addL l a b := rfl
theorem fold_turn (l : List UInt32) (a d n : Nat) : l.set d (lft (l.getD d 0 ^^^ l.getD a 0) n) = turnL l a d n := rfl
theorem fold_wrd (s : List UInt8) (i : Nat) : (s.getD i 0).toUInt32 ||| sl32 (s.getD (i + 1) 0).toUInt32 8 ||| sl32 (s.getD (i + 2) 0).toUInt32 16 ||| sl32 (s.getD (i + 3) 0).toUInt32 24 = wrd s i := rfl
attribute [push_cast] fold_add fold_turn
theorem bdec_pos {p : Prop} [Decidable p] (h : p) : decide p = true := decide_eq_true h
theorem bdec_neg {p : Prop} [Decidable p] (h : ¬ p) : decide p = false := decide_eq_false h
attribute [push_cast] bdec_pos bdec_neg
theorem fillT_at {α : Type} {a b : List α} {i : Nat} (hi : i = a.length) (h : a.length < b.length) (x : α) : (fillT a b).set i x = fillT (a ++ [x]) b := by subst hi; exact fillT_set h x
theorem fillT_get {α : Type} {a b : List α} {i : Nat} (hi : i = a.length) : (fillT a b)[i]? = b[i]? := by
  subst hi
  rw [fillT, List.getElem?_append_right (Nat.le_refl _), Nat.sub_self, List.getElem?_drop, Nat.add_zero]
theorem fillT_full {α : Type} {a b : List α} (h : b.length ≤ a.length) : fillT a b = a := by rw [fillT, List.drop_eq_nil_of_le h, List.append_nil]
theorem fillT_nil {α : Type} (b : List α) : fillT [] b = b := by simp [fillT]
theorem sr32_zero (x : UInt32) : sr32 x 0 = x := by
  apply UInt32.toNat_inj.1
  simp [sr32]
theorem by4_four (x : UInt32) : by4 x 4 = [x.toUInt8, (sr32 x 8).toUInt8, (sr32 x 16).toUInt8, (sr32 x 24).toUInt8] := by simp [by4, sr32_zero]

theorem chX_def (key nonce : List UInt8) (c : Nat) (b : List UInt8) : chX key nonce c b = xorF (chF key nonce c) b b.length := rfl
theorem chF_at (key nonce : List UInt8) (c n i : Nat) (h : i < 64) : chF key nonce c (64 * n + i) = (chB key nonce (c + n)).getD i 0 := by
  rw [chF, show (64 * n + i) / 64 = n from by omega, show (64 * n + i) % 64 = i from by omega]

end Go.Proofs.Try
