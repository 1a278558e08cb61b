/- Numbers of 8 and of 32 bits, as values stand for them. It speaks of no program of ours. -/
import Derived.Test.YtpibemolnjmgoaaDoorDq
namespace Go.Proofs.YtpibemolnjmgoaaDoor
set_option linter.unusedSimpArgs false
set_option linter.unusedVariables false
def u32D (x : UInt32) : D := .v (.int .u32 (x.toNat : Int))
def u8D (x : UInt8) : D := .v (.int .u8 (x.toNat : Int))
def iD (x : Int) : D := .v (.int .i64 x)
def bD (x : Bool) : D := .v (.bool x)
def strD (l : List UInt8) : D := .v (.string (B l))
theorem u32_le (x : UInt32) : (x.toNat : Int) ≤ 4294967295 := by have := x.toNat_lt; omega
theorem u8_le (x : UInt8) : (x.toNat : Int) ≤ 255 := by have := x.toNat_lt; omega
theorem u32_p (a b : UInt32) : 0 ≤ (a.toNat : Int) ∧ (a.toNat : Int) ≤ 4294967295 ∧ 0 ≤ (b.toNat : Int) ∧ (b.toNat : Int) ≤ 4294967295 := ⟨by omega, u32_le a, by omega, u32_le b⟩
theorem u32_p1 (a : UInt32) : 0 ≤ (a.toNat : Int) ∧ (a.toNat : Int) ≤ 4294967295 := ⟨by omega, u32_le a⟩
theorem u32_xor (a b : UInt32) : ((a.toNat ^^^ b.toNat : Nat) : Int) = ((a ^^^ b).toNat : Int) := by rw [UInt32.toNat_xor]
theorem u32_or (a b : UInt32) : ((a.toNat ||| b.toNat : Nat) : Int) = ((a ||| b).toNat : Int) := by rw [UInt32.toNat_or]
theorem u32_and (a b : UInt32) : ((a.toNat &&& b.toNat : Nat) : Int) = ((a &&& b).toNat : Int) := by rw [UInt32.toNat_and]
theorem u32_add (a b : UInt32) : ((a.toNat : Int) + (b.toNat : Int)) % 4294967296 = ((a + b).toNat : Int) := by simp [UInt32.toNat_add]
theorem u32_not (a : UInt32) : 4294967295 - (a.toNat : Int) = ((~~~a).toNat : Int) := by
  have := a.toNat_lt
  rw [UInt32.toNat_not]
  simp only [UInt32.size]
  omega
theorem u32_shr (a : UInt32) (n : Nat) (h : n < 32) : (a.toNat : Int) / 2 ^ n = ((a >>> UInt32.ofNat n).toNat : Int) := by
  have e : (UInt32.ofNat n).toNat % 32 = n := by
    rw [UInt32.toNat_ofNat']
    omega
  rw [UInt32.toNat_shiftRight, e, Nat.shiftRight_eq_div_pow, Int.natCast_ediv, Int.natCast_pow]
  rfl
theorem u32_shl (a : UInt32) (n : Nat) (h : n < 32) : (a.toNat : Int) * 2 ^ n % 4294967296 = ((a <<< UInt32.ofNat n).toNat : Int) := by
  have e : (UInt32.ofNat n).toNat % 32 = n := by
    rw [UInt32.toNat_ofNat']
    omega
  rw [UInt32.toNat_shiftLeft, e, Nat.shiftLeft_eq, Int.natCast_emod, Int.natCast_mul, Int.natCast_pow]
  rfl
theorem u8_u32 (a : UInt8) : (a.toNat : Int) % 4294967296 = (a.toUInt32.toNat : Int) := by
  have h := a.toNat_lt
  rw [UInt8.toNat_toUInt32]
  omega
theorem u32_u8 (a : UInt32) : (a.toNat : Int) % 256 = (a.toUInt8.toNat : Int) := by simp
def ror (x : UInt32) (n : Nat) : UInt32 := (x >>> UInt32.ofNat n) ||| (x <<< UInt32.ofNat (32 - n))
end Go.Proofs.YtpibemolnjmgoaaDoor
