/- Bit operations of the model's integers, said of UInt8, UInt32, UInt64. -/
import Derived.Test.YtnenbmbgmmeiaaaDoorBase
namespace Go.Proofs.YtnenbmbgmmeiaaaDoor
open Go.RowKit

theorem bx32 (a b : UInt32) : bits .xor .u32 (a.toNat : Int) (b.toNat : Int) = ((a ^^^ b).toNat : Int) := by
  rw [u32_xor_nat _ _ a.toNat_lt b.toNat_lt, UInt32.toNat_xor]
theorem ba32 (a b : UInt32) : bits .and .u32 (a.toNat : Int) (b.toNat : Int) = ((a &&& b).toNat : Int) := by
  rw [u32_and_nat _ _ a.toNat_lt b.toNat_lt, UInt32.toNat_and]
theorem bo32 (a b : UInt32) : bits .or .u32 (a.toNat : Int) (b.toNat : Int) = ((a ||| b).toNat : Int) := by
  rw [u32_or_nat _ _ a.toNat_lt b.toNat_lt, UInt32.toNat_or]
theorem bx64 (a b : UInt64) : bits .xor .u64 (a.toNat : Int) (b.toNat : Int) = ((a ^^^ b).toNat : Int) := by
  rw [u64_xor_nat _ _ a.toNat_lt b.toNat_lt, UInt64.toNat_xor]
theorem ba64 (a b : UInt64) : bits .and .u64 (a.toNat : Int) (b.toNat : Int) = ((a &&& b).toNat : Int) := by
  rw [u64_and_nat _ _ a.toNat_lt b.toNat_lt, UInt64.toNat_and]
theorem bo64 (a b : UInt64) : bits .or .u64 (a.toNat : Int) (b.toNat : Int) = ((a ||| b).toNat : Int) := by
  rw [u64_or_nat _ _ a.toNat_lt b.toNat_lt, UInt64.toNat_or]
theorem bx8 (a b : UInt8) : bits .xor .u8 (a.toNat : Int) (b.toNat : Int) = ((a ^^^ b).toNat : Int) := by
  rw [u8_xor_nat _ _ a.toNat_lt b.toNat_lt, UInt8.toNat_xor]
theorem ba8 (a b : UInt8) : bits .and .u8 (a.toNat : Int) (b.toNat : Int) = ((a &&& b).toNat : Int) := by
  rw [u8_and_nat _ _ a.toNat_lt b.toNat_lt, UInt8.toNat_and]
theorem bo8 (a b : UInt8) : bits .or .u8 (a.toNat : Int) (b.toNat : Int) = ((a ||| b).toNat : Int) := by
  rw [u8_or_nat _ _ a.toNat_lt b.toNat_lt, UInt8.toNat_or]
theorem max32 : IntKind.u32.max = 4294967295 := by decide
theorem max64 : IntKind.u64.max = 18446744073709551615 := by decide

theorem half32 (x : UInt32) : (x.toNat : Int) / (2 : Int) = ((x >>> 1).toNat : Int) := by
  rw [UInt32.toNat_shiftRight]; simp [Nat.shiftRight_eq_div_pow]
theorem sh8_32 (x : UInt32) : (x.toNat : Int) / (256 : Int) = ((x >>> 8).toNat : Int) := by
  rw [UInt32.toNat_shiftRight]; simp [Nat.shiftRight_eq_div_pow]
theorem up8_32 (c : UInt8) : (c.toNat : Int) % (4294967296 : Int) = (c.toUInt32.toNat : Int) := by
  have := c.toNat_lt; simp; omega
theorem up8_64 (c : UInt8) : (c.toNat : Int) % (18446744073709551616 : Int) = (c.toUInt64.toNat : Int) := by
  have := c.toNat_lt; simp; omega
theorem down32 (x : UInt32) : (x.toNat : Int) % (256 : Int) = (x.toUInt8.toNat : Int) := by simp
theorem down64 (x : UInt64) : (x.toNat : Int) % (256 : Int) = (x.toUInt8.toNat : Int) := by simp
theorem mul64 (a b : UInt64) : ((a.toNat : Int) * (b.toNat : Int)) % (18446744073709551616 : Int) = ((a * b).toNat : Int) := by
  rw [UInt64.toNat_mul]; simp
theorem and1_32 (x : UInt32) : ((x &&& 1).toNat : Int) = (x.toNat : Int) % (2 : Int) := by
  rw [UInt32.toNat_and]; simp [Nat.and_one_is_mod]
theorem bx32k (a : UInt32) : bits .xor .u32 (a.toNat : Int) 3988292384 = ((a ^^^ 0xedb88320).toNat : Int) := by
  have := bx32 a 3988292384; simpa using this
theorem bx32n (a : UInt32) : bits .xor .u32 (a.toNat : Int) 4294967295 = ((a ^^^ 0xffffffff).toNat : Int) := by
  have := bx32 a 4294967295; simpa using this
theorem bx32n' (a : UInt32) : bits .xor .u32 4294967295 (a.toNat : Int) = ((a ^^^ 0xffffffff).toNat : Int) := by
  have := bx32 4294967295 a; rw [UInt32.xor_comm]; simpa using this
theorem ba32k (a : UInt32) : bits .and .u32 (a.toNat : Int) 1 = ((a &&& 1).toNat : Int) := by
  have := ba32 a 1; simpa using this
theorem ba32ff (a : UInt32) : bits .and .u32 (a.toNat : Int) 255 = ((a &&& 255).toNat : Int) := by
  have := ba32 a 255; simpa using this

theorem wrapU64 (x : UInt64) : IntKind.u64.wrap (x.toNat : Int) = (x.toNat : Int) := by
  have := x.toNat_lt; rw [IntKind.wrap_u64]; omega
theorem wrap8_64 (c : UInt8) : IntKind.u64.wrap (c.toNat : Int) = (c.toUInt64.toNat : Int) := by
  have := c.toNat_lt; rw [IntKind.wrap_u64]; simp; omega
theorem wrapMul64 (a b : UInt64) : IntKind.u64.wrap ((a.toNat : Int) * (b.toNat : Int)) = ((a * b).toNat : Int) := by
  rw [IntKind.wrap_u64, ← mul64]
end Go.Proofs.YtnenbmbgmmeiaaaDoor
