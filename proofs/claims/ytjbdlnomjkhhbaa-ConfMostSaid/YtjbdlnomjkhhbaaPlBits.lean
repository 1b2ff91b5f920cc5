/- Plain facts: bits of whole numbers of 64 bits. -/
import Derived.Test.YtjbdlnomjkhhbaaFwA
import Derived.Laws.Bits64
import Derived.Laws.BitsLemmas
namespace Go.Proofs.Ytjbdlnomjkhhbaa.AB
set_option linter.unusedVariables false
set_option linter.unusedSimpArgs false

theorem band32 {a : Int} (h0 : 0 ≤ a) (h1 : a < 18446744073709551616) : bitsA .and .u64 a 4294967295 = a % 4294967296 := by
  show IntKind.u64.wrap (((BitVec.ofInt 64 a &&& BitVec.ofInt 64 4294967295).toNat : Nat) : Int) = _
  rw [BitVec.toNat_and, BitVec.toNat_ofInt, BitVec.toNat_ofInt]
  have e : (a % ((2 ^ 64 : Nat) : Int)).toNat = a.toNat := by
    rw [Int.emod_eq_of_lt h0 (by simpa using h1)]
  have e2 : ((4294967295 : Int) % ((2 ^ 64 : Nat) : Int)).toNat = 2 ^ 32 - 1 := by decide
  rw [e, e2, Nat.and_two_pow_sub_one_eq_mod, IntKind.wrap_u64]
  omega

theorem bor32 {m y : Int} (h0 : 0 ≤ m) (h1 : m < 4294967296) (y0 : 0 ≤ y) (y1 : y < 4294967296) : bitsA .or .u64 (m * 4294967296) y = m * 4294967296 + y := by
  show IntKind.u64.wrap (((BitVec.ofInt 64 (m * 4294967296) ||| BitVec.ofInt 64 y).toNat : Nat) : Int) = _
  rw [BitVec.toNat_or, BitVec.toNat_ofInt, BitVec.toNat_ofInt]
  have e : ((m * 4294967296) % ((2 ^ 64 : Nat) : Int)).toNat = m.toNat <<< 32 := by
    rw [Int.emod_eq_of_lt (by omega) (by simp; omega), Nat.shiftLeft_eq]; omega
  have e2 : (y % ((2 ^ 64 : Nat) : Int)).toNat = y.toNat := by
    rw [Int.emod_eq_of_lt y0 (by simp; omega)]
  rw [e, e2, ← Nat.shiftLeft_add_eq_or_of_lt (by omega), Nat.shiftLeft_eq, IntKind.wrap_u64]
  omega
end Go.Proofs.Ytjbdlnomjkhhbaa.AB
