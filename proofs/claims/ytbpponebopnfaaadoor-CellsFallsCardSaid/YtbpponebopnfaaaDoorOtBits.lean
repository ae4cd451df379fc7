/- Whole numbers of fixed widths: what the model's operations do with them. -/
import Derived.Test.YtbpponebopnfaaaDoorOtGo
set_option linter.unusedVariables false
set_option linter.unusedSimpArgs false
namespace Go.Ot
theorem bits_u8 : IntKind.bits .u8 = 8 := rfl
theorem bits_u16 : IntKind.bits .u16 = 16 := rfl
theorem bits_u32 : IntKind.bits .u32 = 32 := rfl
theorem bits_u64 : IntKind.bits .u64 = 64 := rfl
theorem bits_i64 : IntKind.bits .i64 = 64 := rfl
theorem signed_u8 : IntKind.signed .u8 = false := rfl
theorem signed_u32 : IntKind.signed .u32 = false := rfl
theorem signed_u64 : IntKind.signed .u64 = false := rfl
attribute [push_cast] bits_u8 bits_u16 bits_u32 bits_u64 bits_i64 signed_u8 signed_u32 signed_u64

theorem wu8 (n : Nat) : IntKind.u8.wrap (n : Int) = ((n % 2 ^ 8 : Nat) : Int) := by simp [IntKind.wrap, IntKind.bits, IntKind.signed]
theorem wi8 (n : Int) : IntKind.u8.wrap n = ((UInt8.ofInt n).toNat : Int) := by
  have h : IntKind.u8.wrap n = n % 2 ^ 8 := by simp [IntKind.wrap, IntKind.bits, IntKind.signed]
  rw [h, UInt8.ofInt, UInt8.toNat_ofNat']
  have := Int.emod_nonneg n (show (2 : Int) ^ 8 ≠ 0 by decide)
  have h2 := Int.emod_lt_of_pos n (show (0 : Int) < 2 ^ 8 by decide)
  have h3 : (n % 2 ^ 8).toNat < 2 ^ 8 := by omega
  rw [Nat.mod_eq_of_lt h3]; omega
def sl8 (x : UInt8) (k : Nat) : UInt8 := UInt8.ofNat (x.toNat <<< k)
def sr8 (x : UInt8) (k : Nat) : UInt8 := UInt8.ofNat (x.toNat >>> k)
section
variable (x y : UInt8)
theorem ofI8 : BitVec.ofInt (IntKind.bits .u8) (x.toNat : Int) = x.toBitVec := by
  rw [BitVec.ofInt_natCast]
  exact BitVec.ofNat_toNat _ _ ▸ (by simp [IntKind.bits])
theorem add8 : IntKind.u8.wrap ((x.toNat : Int) + (y.toNat : Int)) = ((x + y).toNat : Int) := by
  rw [show (x.toNat : Int) + (y.toNat : Int) = ((x.toNat + y.toNat : Nat) : Int) from by omega, wu8, UInt8.toNat_add]
theorem mul8 : IntKind.u8.wrap ((x.toNat : Int) * (y.toNat : Int)) = ((x * y).toNat : Int) := by
  rw [show (x.toNat : Int) * (y.toNat : Int) = ((x.toNat * y.toNat : Nat) : Int) from by simp, wu8, UInt8.toNat_mul]
theorem xor8 : bits .xor .u8 (x.toNat : Int) (y.toNat : Int) = ((x ^^^ y).toNat : Int) := by
  simp only [bits, ofI8]
  rw [wu8]
  norm_cast
  exact Nat.mod_eq_of_lt (UInt8.toNat_lt (x ^^^ y))
theorem and8 : bits .and .u8 (x.toNat : Int) (y.toNat : Int) = ((x &&& y).toNat : Int) := by
  simp only [bits, ofI8]
  rw [wu8]
  norm_cast
  exact Nat.mod_eq_of_lt (UInt8.toNat_lt (x &&& y))
theorem or8 : bits .or .u8 (x.toNat : Int) (y.toNat : Int) = ((x ||| y).toNat : Int) := by
  simp only [bits, ofI8]
  rw [wu8]
  norm_cast
  exact Nat.mod_eq_of_lt (UInt8.toNat_lt (x ||| y))
theorem mul8l (n : Nat) : IntKind.u8.wrap ((x.toNat : Int) * (no_index (OfNat.ofNat n) : Int)) = ((x * (OfNat.ofNat n : UInt8)).toNat : Int) := by
  rw [show (x.toNat : Int) * (OfNat.ofNat n : Int) = ((x.toNat * n : Nat) : Int) from by simp; rfl, wu8, UInt8.toNat_mul, show (OfNat.ofNat n : UInt8) = UInt8.ofNat n from rfl, UInt8.toNat_ofNat']
  simp
theorem not8 : bits .xor .u8 (IntKind.max .u8) (x.toNat : Int) = ((~~~x).toNat : Int) := by
  have : IntKind.max .u8 = (((~~~(0 : UInt8)) : UInt8).toNat : Int) := by decide
  rw [this, xor8]
  congr 2
theorem shl8 (k : Nat) : IntKind.u8.wrap ((x.toNat : Int) * 2 ^ min k 8) = ((sl8 x k).toNat : Int) := by
  rw [show (x.toNat : Int) * 2 ^ min k 8 = ((x.toNat * 2 ^ min k 8 : Nat) : Int) from by simp, wu8, sl8, UInt8.toNat_ofNat', Nat.shiftLeft_eq]
  by_cases h : k ≤ 8
  · rw [Nat.min_eq_left h]
  · rw [Nat.min_eq_right (by omega), show k = 8 + (k - 8) from by omega, Nat.pow_add, ← Nat.mul_assoc, Nat.mul_mod_left, Nat.mul_right_comm, Nat.mul_mod_left]
theorem shr8 (k : Nat) : (x.toNat : Int) / 2 ^ min k 8 = ((sr8 x k).toNat : Int) := by
  rw [show (x.toNat : Int) / 2 ^ min k 8 = ((x.toNat / 2 ^ min k 8 : Nat) : Int) from by simp, sr8, UInt8.toNat_ofNat', Nat.shiftRight_eq_div_pow]
  have hx := UInt8.toNat_lt x
  by_cases h : k ≤ 8
  · rw [Nat.min_eq_left h, Nat.mod_eq_of_lt (Nat.lt_of_le_of_lt (Nat.div_le_self _ _) hx)]
  · have h2 : x.toNat < 2 ^ k := Nat.lt_of_lt_of_le hx (Nat.pow_le_pow_right (by decide) (by omega))
    rw [Nat.min_eq_right (by omega), Nat.div_eq_of_lt hx, Nat.div_eq_of_lt h2]
end
attribute [push_cast] mul8l
attribute [push_cast] add8 mul8 xor8 and8 or8 not8 shl8 shr8
theorem wu32 (n : Nat) : IntKind.u32.wrap (n : Int) = ((n % 2 ^ 32 : Nat) : Int) := by simp [IntKind.wrap, IntKind.bits, IntKind.signed]
theorem wi32 (n : Int) : IntKind.u32.wrap n = ((UInt32.ofInt n).toNat : Int) := by
  have h : IntKind.u32.wrap n = n % 2 ^ 32 := by simp [IntKind.wrap, IntKind.bits, IntKind.signed]
  rw [h, UInt32.ofInt, UInt32.toNat_ofNat']
  have := Int.emod_nonneg n (show (2 : Int) ^ 32 ≠ 0 by decide)
  have h2 := Int.emod_lt_of_pos n (show (0 : Int) < 2 ^ 32 by decide)
  have h3 : (n % 2 ^ 32).toNat < 2 ^ 32 := by omega
  rw [Nat.mod_eq_of_lt h3]; omega
def sl32 (x : UInt32) (k : Nat) : UInt32 := UInt32.ofNat (x.toNat <<< k)
def sr32 (x : UInt32) (k : Nat) : UInt32 := UInt32.ofNat (x.toNat >>> k)
section
variable (x y : UInt32)
theorem ofI32 : BitVec.ofInt (IntKind.bits .u32) (x.toNat : Int) = x.toBitVec := by
  rw [BitVec.ofInt_natCast]
  exact BitVec.ofNat_toNat _ _ ▸ (by simp [IntKind.bits])
theorem add32 : IntKind.u32.wrap ((x.toNat : Int) + (y.toNat : Int)) = ((x + y).toNat : Int) := by
  rw [show (x.toNat : Int) + (y.toNat : Int) = ((x.toNat + y.toNat : Nat) : Int) from by omega, wu32, UInt32.toNat_add]
theorem mul32 : IntKind.u32.wrap ((x.toNat : Int) * (y.toNat : Int)) = ((x * y).toNat : Int) := by
  rw [show (x.toNat : Int) * (y.toNat : Int) = ((x.toNat * y.toNat : Nat) : Int) from by simp, wu32, UInt32.toNat_mul]
theorem xor32 : bits .xor .u32 (x.toNat : Int) (y.toNat : Int) = ((x ^^^ y).toNat : Int) := by
  simp only [bits, ofI32]
  rw [wu32]
  norm_cast
  exact Nat.mod_eq_of_lt (UInt32.toNat_lt (x ^^^ y))
theorem and32 : bits .and .u32 (x.toNat : Int) (y.toNat : Int) = ((x &&& y).toNat : Int) := by
  simp only [bits, ofI32]
  rw [wu32]
  norm_cast
  exact Nat.mod_eq_of_lt (UInt32.toNat_lt (x &&& y))
theorem or32 : bits .or .u32 (x.toNat : Int) (y.toNat : Int) = ((x ||| y).toNat : Int) := by
  simp only [bits, ofI32]
  rw [wu32]
  norm_cast
  exact Nat.mod_eq_of_lt (UInt32.toNat_lt (x ||| y))
theorem mul32l (n : Nat) : IntKind.u32.wrap ((x.toNat : Int) * (no_index (OfNat.ofNat n) : Int)) = ((x * (OfNat.ofNat n : UInt32)).toNat : Int) := by
  rw [show (x.toNat : Int) * (OfNat.ofNat n : Int) = ((x.toNat * n : Nat) : Int) from by simp; rfl, wu32, UInt32.toNat_mul, show (OfNat.ofNat n : UInt32) = UInt32.ofNat n from rfl, UInt32.toNat_ofNat']
  simp
theorem not32 : bits .xor .u32 (IntKind.max .u32) (x.toNat : Int) = ((~~~x).toNat : Int) := by
  have : IntKind.max .u32 = (((~~~(0 : UInt32)) : UInt32).toNat : Int) := by decide
  rw [this, xor32]
  congr 2
theorem shl32 (k : Nat) : IntKind.u32.wrap ((x.toNat : Int) * 2 ^ min k 32) = ((sl32 x k).toNat : Int) := by
  rw [show (x.toNat : Int) * 2 ^ min k 32 = ((x.toNat * 2 ^ min k 32 : Nat) : Int) from by simp, wu32, sl32, UInt32.toNat_ofNat', Nat.shiftLeft_eq]
  by_cases h : k ≤ 32
  · rw [Nat.min_eq_left h]
  · rw [Nat.min_eq_right (by omega), show k = 32 + (k - 32) from by omega, Nat.pow_add, ← Nat.mul_assoc, Nat.mul_mod_left, Nat.mul_right_comm, Nat.mul_mod_left]
theorem shr32 (k : Nat) : (x.toNat : Int) / 2 ^ min k 32 = ((sr32 x k).toNat : Int) := by
  rw [show (x.toNat : Int) / 2 ^ min k 32 = ((x.toNat / 2 ^ min k 32 : Nat) : Int) from by simp, sr32, UInt32.toNat_ofNat', Nat.shiftRight_eq_div_pow]
  have hx := UInt32.toNat_lt x
  by_cases h : k ≤ 32
  · rw [Nat.min_eq_left h, Nat.mod_eq_of_lt (Nat.lt_of_le_of_lt (Nat.div_le_self _ _) hx)]
  · have h2 : x.toNat < 2 ^ k := Nat.lt_of_lt_of_le hx (Nat.pow_le_pow_right (by decide) (by omega))
    rw [Nat.min_eq_right (by omega), Nat.div_eq_of_lt hx, Nat.div_eq_of_lt h2]
end
attribute [push_cast] mul32l
attribute [push_cast] add32 mul32 xor32 and32 or32 not32 shl32 shr32
theorem wu64 (n : Nat) : IntKind.u64.wrap (n : Int) = ((n % 2 ^ 64 : Nat) : Int) := by simp [IntKind.wrap, IntKind.bits, IntKind.signed]
theorem wi64 (n : Int) : IntKind.u64.wrap n = ((UInt64.ofInt n).toNat : Int) := by
  have h : IntKind.u64.wrap n = n % 2 ^ 64 := by simp [IntKind.wrap, IntKind.bits, IntKind.signed]
  rw [h, UInt64.ofInt, UInt64.toNat_ofNat']
  have := Int.emod_nonneg n (show (2 : Int) ^ 64 ≠ 0 by decide)
  have h2 := Int.emod_lt_of_pos n (show (0 : Int) < 2 ^ 64 by decide)
  have h3 : (n % 2 ^ 64).toNat < 2 ^ 64 := by omega
  rw [Nat.mod_eq_of_lt h3]; omega
def sl64 (x : UInt64) (k : Nat) : UInt64 := UInt64.ofNat (x.toNat <<< k)
def sr64 (x : UInt64) (k : Nat) : UInt64 := UInt64.ofNat (x.toNat >>> k)
section
variable (x y : UInt64)
theorem ofI64 : BitVec.ofInt (IntKind.bits .u64) (x.toNat : Int) = x.toBitVec := by
  rw [BitVec.ofInt_natCast]
  exact BitVec.ofNat_toNat _ _ ▸ (by simp [IntKind.bits])
theorem add64 : IntKind.u64.wrap ((x.toNat : Int) + (y.toNat : Int)) = ((x + y).toNat : Int) := by
  rw [show (x.toNat : Int) + (y.toNat : Int) = ((x.toNat + y.toNat : Nat) : Int) from by omega, wu64, UInt64.toNat_add]
theorem mul64 : IntKind.u64.wrap ((x.toNat : Int) * (y.toNat : Int)) = ((x * y).toNat : Int) := by
  rw [show (x.toNat : Int) * (y.toNat : Int) = ((x.toNat * y.toNat : Nat) : Int) from by simp, wu64, UInt64.toNat_mul]
theorem xor64 : bits .xor .u64 (x.toNat : Int) (y.toNat : Int) = ((x ^^^ y).toNat : Int) := by
  simp only [bits, ofI64]
  rw [wu64]
  norm_cast
  exact Nat.mod_eq_of_lt (UInt64.toNat_lt (x ^^^ y))
theorem and64 : bits .and .u64 (x.toNat : Int) (y.toNat : Int) = ((x &&& y).toNat : Int) := by
  simp only [bits, ofI64]
  rw [wu64]
  norm_cast
  exact Nat.mod_eq_of_lt (UInt64.toNat_lt (x &&& y))
theorem or64 : bits .or .u64 (x.toNat : Int) (y.toNat : Int) = ((x ||| y).toNat : Int) := by
  simp only [bits, ofI64]
  rw [wu64]
  norm_cast
  exact Nat.mod_eq_of_lt (UInt64.toNat_lt (x ||| y))
theorem mul64l (n : Nat) : IntKind.u64.wrap ((x.toNat : Int) * (no_index (OfNat.ofNat n) : Int)) = ((x * (OfNat.ofNat n : UInt64)).toNat : Int) := by
  rw [show (x.toNat : Int) * (OfNat.ofNat n : Int) = ((x.toNat * n : Nat) : Int) from by simp; rfl, wu64, UInt64.toNat_mul, show (OfNat.ofNat n : UInt64) = UInt64.ofNat n from rfl, UInt64.toNat_ofNat']
  simp
theorem not64 : bits .xor .u64 (IntKind.max .u64) (x.toNat : Int) = ((~~~x).toNat : Int) := by
  have : IntKind.max .u64 = (((~~~(0 : UInt64)) : UInt64).toNat : Int) := by decide
  rw [this, xor64]
  congr 2
theorem shl64 (k : Nat) : IntKind.u64.wrap ((x.toNat : Int) * 2 ^ min k 64) = ((sl64 x k).toNat : Int) := by
  rw [show (x.toNat : Int) * 2 ^ min k 64 = ((x.toNat * 2 ^ min k 64 : Nat) : Int) from by simp, wu64, sl64, UInt64.toNat_ofNat', Nat.shiftLeft_eq]
  by_cases h : k ≤ 64
  · rw [Nat.min_eq_left h]
  · rw [Nat.min_eq_right (by omega), show k = 64 + (k - 64) from by omega, Nat.pow_add, ← Nat.mul_assoc, Nat.mul_mod_left, Nat.mul_right_comm, Nat.mul_mod_left]
theorem shr64 (k : Nat) : (x.toNat : Int) / 2 ^ min k 64 = ((sr64 x k).toNat : Int) := by
  rw [show (x.toNat : Int) / 2 ^ min k 64 = ((x.toNat / 2 ^ min k 64 : Nat) : Int) from by simp, sr64, UInt64.toNat_ofNat', Nat.shiftRight_eq_div_pow]
  have hx := UInt64.toNat_lt x
  by_cases h : k ≤ 64
  · rw [Nat.min_eq_left h, Nat.mod_eq_of_lt (Nat.lt_of_le_of_lt (Nat.div_le_self _ _) hx)]
  · have h2 : x.toNat < 2 ^ k := Nat.lt_of_lt_of_le hx (Nat.pow_le_pow_right (by decide) (by omega))
    rw [Nat.min_eq_right (by omega), Nat.div_eq_of_lt hx, Nat.div_eq_of_lt h2]
end
attribute [push_cast] mul64l
attribute [push_cast] add64 mul64 xor64 and64 or64 not64 shl64 shr64
theorem up8_32 (x : UInt8) : IntKind.u32.wrap (x.toNat : Int) = (x.toUInt32.toNat : Int) := by
  rw [wu32, UInt8.toNat_toUInt32]
  exact congrArg _ (Nat.mod_eq_of_lt (Nat.lt_of_lt_of_le (UInt8.toNat_lt x) (by decide)))
theorem up8_64 (x : UInt8) : IntKind.u64.wrap (x.toNat : Int) = (x.toUInt64.toNat : Int) := by
  rw [wu64, UInt8.toNat_toUInt64]
  exact congrArg _ (Nat.mod_eq_of_lt (Nat.lt_of_lt_of_le (UInt8.toNat_lt x) (by decide)))
theorem up32_64 (x : UInt32) : IntKind.u64.wrap (x.toNat : Int) = (x.toUInt64.toNat : Int) := by
  rw [wu64, UInt32.toNat_toUInt64]
  exact congrArg _ (Nat.mod_eq_of_lt (Nat.lt_of_lt_of_le (UInt32.toNat_lt x) (by decide)))
theorem dn32_8 (x : UInt32) : IntKind.u8.wrap (x.toNat : Int) = (x.toUInt8.toNat : Int) := by
  rw [wu8, UInt32.toNat_toUInt8]
theorem dn64_8 (x : UInt64) : IntKind.u8.wrap (x.toNat : Int) = (x.toUInt8.toNat : Int) := by
  rw [wu8, UInt64.toNat_toUInt8]
theorem dn64_32 (x : UInt64) : IntKind.u32.wrap (x.toNat : Int) = (x.toUInt32.toNat : Int) := by
  rw [wu32, UInt64.toNat_toUInt32]
attribute [push_cast] up8_32 up8_64 up32_64 dn32_8 dn64_8 dn64_32
end Go.Ot
