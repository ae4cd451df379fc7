import Derived.Test.YtcajgckomhhglaaSL
import Derived.Test.YtcajgckomhhglaaSCP
set_option maxHeartbeats 4000000
set_option maxRecDepth 100000
set_option linter.unusedVariables false
set_option linter.unusedSimpArgs false
namespace Go.Proofs.Try
open Go Go.Ot

def hidB (key nonce b : List UInt8) : List UInt8 := chX (key.take 32) nonce 1 b
def tagB (key nonce ad c : List UInt8) : List UInt8 := (hmacB (key.drop 32) (eight ad.length ++ ad ++ nonce ++ c)).take 16
/-- What is sealed. -/
def sealB (key nonce ad b : List UInt8) : List UInt8 := if key.length = 64 ∧ nonce.length = 12 ∧ b.length ≤ 1048576 then hidB key nonce b ++ tagB key nonce ad (hidB key nonce b) else []
/-- What is opened. -/
def openB (key nonce ad s : List UInt8) : Option (List UInt8) :=
  if key.length = 64 ∧ nonce.length = 12 ∧ 16 ≤ s.length ∧ s.length ≤ 1048592 ∧ tagB key nonce ad (s.take (s.length - 16)) = s.drop (s.length - 16) then some (hidB key nonce (s.take (s.length - 16))) else none
theorem hidB_len (key nonce b : List UInt8) : (hidB key nonce b).length = b.length := chX_len _ _ _ _
theorem tagB_len (key nonce ad c : List UInt8) : (tagB key nonce ad c).length = 16 := by simp [tagB, hmacB_len]
theorem hidB_def (key nonce b : List UInt8) : hidB key nonce b = chX (key.take 32) nonce 1 b := rfl
theorem hidB_nil (key nonce : List UInt8) : hidB key nonce [] = [] := rfl
theorem byte_sh (n : Nat) (h : n < 4294967296) (k : Nat) (hk : k ≤ 56) : (sr64 (UInt64.ofInt (n : Int)) k).toUInt8 = UInt8.ofInt ((n : Int) / 2 ^ k) := by
  apply UInt8.toNat_inj.1
  have h1 : (UInt64.ofInt (n : Int)).toNat = n := by
    rw [UInt64.ofInt, UInt64.toNat_ofNat']
    omega
  have h2 : (sr64 (UInt64.ofInt (n : Int)) k).toNat = n / 2 ^ k := by
    rw [sr64, UInt64.toNat_ofNat', h1, Nat.shiftRight_eq_div_pow]
    exact Nat.mod_eq_of_lt (Nat.lt_of_le_of_lt (Nat.div_le_self _ _) (by omega))
  rw [UInt64.toNat_toUInt8, h2, UInt8.ofInt, UInt8.toNat_ofNat', show (2 : Int) ^ k = ((2 ^ k : Nat) : Int) from by simp, ← Int.natCast_ediv]
  omega
attribute [push_cast] hidB_len tagB_len

theorem openB_none {key nonce ad s : List UInt8} (h : ¬ (key.length = 64 ∧ nonce.length = 12 ∧ 16 ≤ s.length ∧ s.length ≤ 1048592)) : openB key nonce ad s = none := if_neg fun e => h ⟨e.1, e.2.1, e.2.2.1, e.2.2.2.1⟩
theorem openB_no {key nonce ad s : List UInt8} (h : tagB key nonce ad (s.take (s.length - 16)) ≠ s.drop (s.length - 16)) : openB key nonce ad s = none := if_neg fun e => h e.2.2.2.2
theorem openB_some {key nonce ad s : List UInt8} (h1 : key.length = 64) (h2 : nonce.length = 12) (h3 : 16 ≤ s.length) (h4 : s.length ≤ 1048592) (h : tagB key nonce ad (s.take (s.length - 16)) = s.drop (s.length - 16)) : openB key nonce ad s = some (hidB key nonce (s.take (s.length - 16))) := if_pos ⟨h1, h2, h3, h4, h⟩

theorem xorF_map (f : Nat → UInt8) (b : List UInt8) : ∀ n, xorF f b n = (List.range n).map (fun i => b.getD i 0 ^^^ f i)
  | 0 => rfl
  | n + 1 => by rw [xorF, xorF_map f b n, List.range_succ, List.map_append]; rfl
theorem xorF_get (f : Nat → UInt8) (b : List UInt8) (n i : Nat) (h : i < n) : (xorF f b n).getD i 0 = b.getD i 0 ^^^ f i := by
  rw [xorF_map, List.getD_eq_getElem?_getD, List.getElem?_map, List.getElem?_range h]; rfl
theorem chX_chX (key nonce : List UInt8) (c : Nat) (b : List UInt8) : chX key nonce c (chX key nonce c b) = b := by
  apply List.ext_getElem (by rw [chX_len, chX_len])
  intro i h1 h2
  have hl := chX_len key nonce c b
  have e1 := xorF_get (chF key nonce c) (chX key nonce c b) (chX key nonce c b).length i (by rw [chX_len] at h1; exact h1)
  have e2 := xorF_get (chF key nonce c) b b.length i h2
  have e3 : (chX key nonce c (chX key nonce c b)).getD i 0 = (chX key nonce c b).getD i 0 ^^^ chF key nonce c i := e1
  have e4 : (chX key nonce c b).getD i 0 = b.getD i 0 ^^^ chF key nonce c i := e2
  rw [e4, UInt8.xor_assoc, UInt8.xor_self, UInt8.xor_zero] at e3
  simpa [List.getD_eq_getElem?_getD, List.getElem?_eq_getElem h1, List.getElem?_eq_getElem h2] using e3
theorem hidB_hidB (key nonce b : List UInt8) : hidB key nonce (hidB key nonce b) = b := chX_chX _ _ _ _
theorem sealB_ok {key nonce ad b : List UInt8} (h1 : key.length = 64) (h2 : nonce.length = 12) (h3 : b.length ≤ 1048576) : sealB key nonce ad b = hidB key nonce b ++ tagB key nonce ad (hidB key nonce b) := if_pos ⟨h1, h2, h3⟩
theorem sealB_no {key nonce ad b : List UInt8} (h : ¬ (key.length = 64 ∧ nonce.length = 12 ∧ b.length ≤ 1048576)) : sealB key nonce ad b = [] := if_neg h
theorem sealB_len {key nonce ad b : List UInt8} (h1 : key.length = 64) (h2 : nonce.length = 12) (h3 : b.length ≤ 1048576) : (sealB key nonce ad b).length = b.length + 16 := by rw [sealB_ok h1 h2 h3, List.length_append, hidB_len, tagB_len]
theorem sealB_le (key nonce ad b : List UInt8) : (sealB key nonce ad b).length ≤ b.length + 16 := by
  by_cases h : key.length = 64 ∧ nonce.length = 12 ∧ b.length ≤ 1048576
  · rw [sealB_len h.1 h.2.1 h.2.2]; exact Nat.le_refl _
  · rw [sealB_no h]; simp
theorem open_seal {key nonce ad b : List UInt8} (h1 : key.length = 64) (h2 : nonce.length = 12) (h3 : b.length ≤ 1048576) : openB key nonce ad (sealB key nonce ad b) = some b := by
  have hl := sealB_len (ad := ad) h1 h2 h3
  have hh := hidB_len key nonce b
  have e1 : (sealB key nonce ad b).take ((sealB key nonce ad b).length - 16) = hidB key nonce b := by
    rw [hl, Nat.add_sub_cancel, sealB_ok h1 h2 h3, ← hh, List.take_left]
  have e2 : (sealB key nonce ad b).drop ((sealB key nonce ad b).length - 16) = tagB key nonce ad (hidB key nonce b) := by
    rw [hl, Nat.add_sub_cancel, sealB_ok h1 h2 h3, ← hh, List.drop_left]
  rw [openB_some h1 h2 (by omega) (by omega) (by rw [e1, e2]), e1, hidB_hidB]
def bytesB (ns : List UInt8) (k : Nat) : Nat → List UInt8
  | 0 => List.replicate k 0
  | i + 1 => (bytesB ns k i).set i (if 0 < ns.length then ns.getD (i % ns.length) 0 + UInt8.ofInt ((i : Int) / (ns.length : Int)) else UInt8.ofInt (i : Int))
theorem bytesB_len (ns : List UInt8) (k : Nat) : ∀ i, (bytesB ns k i).length = k
  | 0 => by simp [bytesB]
  | i + 1 => by simp [bytesB, bytesB_len ns k i]
theorem mod_nat (i n : Nat) (h : 0 < n) : ∃ m : Nat, (i : Int) % (n : Int) = (m : Int) ∧ m < n ∧ m = i % n := ⟨i % n, by simp, Nat.mod_lt _ h, rfl⟩
theorem seal_get {key nonce ad b : List UInt8} (h1 : key.length = 64) (h2 : nonce.length = 12) (h3 : b.length ≤ 1048576) {i : Nat} (hi : i < b.length) : (sealB key nonce ad b).getD i 0 = b.getD i 0 ^^^ chF (key.take 32) nonce 1 i := by
  rw [sealB_ok h1 h2 h3, List.getD_eq_getElem?_getD, List.getElem?_append_left (by rw [hidB_len]; exact hi), ← List.getD_eq_getElem?_getD]
  exact xorF_get _ b b.length i hi
theorem take_getD (a : List UInt8) {i m : Nat} (h : i < m) : (a.take m).getD i 0 = a.getD i 0 := by simp [List.getD_eq_getElem?_getD, List.getElem?_take, h]
theorem seal_xor {key nonce ad ad' a b : List UInt8} (h1 : key.length = 64) (h2 : nonce.length = 12) {m : Nat} (hm : m ≤ 200) (ha : m ≤ a.length) (hb : m ≤ b.length) {i : Nat} (hi : i < m) :
    (sealB key nonce ad (a.take m)).getD i 0 ^^^ (sealB key nonce ad' (b.take m)).getD i 0 = a.getD i 0 ^^^ b.getD i 0 := by
  rw [seal_get h1 h2 (by simp; omega) (by simp; omega), seal_get h1 h2 (by simp; omega) (by simp; omega), take_getD a hi, take_getD b hi]
  generalize chF (key.take 32) nonce 1 i = c
  rw [UInt8.xor_assoc, UInt8.xor_comm c (_ ^^^ c), UInt8.xor_assoc, UInt8.xor_self, UInt8.xor_zero]
theorem seal_take {key nonce ad b : List UInt8} (h1 : key.length = 64) (h2 : nonce.length = 12) (h3 : b.length ≤ 1048576) : (sealB key nonce ad b).take b.length = hidB key nonce b := by
  rw [sealB_ok h1 h2 h3, ← hidB_len key nonce b, List.take_left]
theorem div_nat (i n : Nat) : ∃ q : Nat, (i : Int) / (n : Int) = (q : Int) ∧ q ≤ i := ⟨i / n, by simp, Nat.div_le_self _ _⟩
theorem beq_nil {a : List UInt8} (h : 0 < a.length) : (a == []) = false := by cases a with | nil => simp at h | cons x a => rfl
attribute [push_cast] bytesB_len

end Go.Proofs.Try
