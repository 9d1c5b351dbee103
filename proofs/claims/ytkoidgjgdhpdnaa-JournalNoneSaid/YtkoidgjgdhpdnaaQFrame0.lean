/- Words of 64 bits. -/
import Derived.Test.YtkoidgjgdhpdnaaQX
namespace Go.Proofs.Ytkoidgjgdhpdnaa.Pure
open Go Go.Proofs.Ytkoidgjgdhpdnaa.Va
set_option linter.unusedVariables false
set_option linter.unusedSimpArgs false

theorem bOr64_nat (a b : Nat) (ha : a < 9223372036854775808) (hb : b < 9223372036854775808) : bOr .i64 (a : Int) (b : Int) = ((a ||| b : Nat) : Int) := by
  have hx : a ||| b < 2 ^ 63 := Nat.or_lt_two_pow (by omega) (by omega)
  show w64 ((BitVec.ofInt 64 (a : Int) ||| BitVec.ofInt 64 (b : Int)).toNat : Int) = _
  rw [BitVec.ofInt_natCast, BitVec.ofInt_natCast, BitVec.toNat_or, BitVec.toNat_ofNat, BitVec.toNat_ofNat, Nat.mod_eq_of_lt (by omega), Nat.mod_eq_of_lt (by omega)]
  exact w64_of (by omega) (by omega)
theorem bOr64_add {a b : Int} (k : Nat) (ha : 0 ≤ a) (hab : a + b < 9223372036854775808) (hd : a % 2 ^ k = 0) (hb : 0 ≤ b) (hb2 : b < 2 ^ k) : bOr .i64 a b = a + b := by
  obtain ⟨x, rfl⟩ := Int.eq_ofNat_of_zero_le ha
  obtain ⟨y, rfl⟩ := Int.eq_ofNat_of_zero_le hb
  rw [bOr64_nat x y (by omega) (by omega)]
  have hb2' : y < 2 ^ k := by exact_mod_cast hb2
  have hd' : x % 2 ^ k = 0 := by exact_mod_cast hd
  have e : x = 2 ^ k * (x / 2 ^ k) := by
    have := Nat.div_add_mod x (2 ^ k)
    omega
  have : x ||| y = x + y := by
    rw [e]
    exact (Nat.two_pow_add_eq_or_of_lt hb2' _).symm
  rw [this]
  omega
theorem bShl64 (a : Int) (k : Nat) (hk : k ≤ 64) (h1 : -9223372036854775808 ≤ a * 2 ^ k) (h2 : a * 2 ^ k < 9223372036854775808) : bShl .i64 a (k : Int) = a * 2 ^ k := by
  show w64 (a * 2 ^ min ((k : Int).toNat) 64) = _
  rw [Int.toNat_natCast, Nat.min_eq_left hk]
  exact w64_of h1 h2

end Go.Proofs.Ytkoidgjgdhpdnaa.Pure
