import Derived.RowKit
import Derived.Laws.Entries
import Derived.Laws.BitsLemmas
import Derived.Laws.Bits64b
namespace Go.Proofs.Ytmbkkkpakjippaa.Wb
open Go Go.RowKit

/-! Plain facts of words of 32 bits. -/

theorem w32 (n : Int) : IntKind.u32.wrap n = n % 4294967296 := by simp [IntKind.wrap, IntKind.bits, IntKind.signed]

theorem ofInt_nat (a : Nat) (ha : a < 4294967296) : (BitVec.ofInt 32 (a : Int)).toNat = a := by
  rw [BitVec.ofInt_natCast, BitVec.toNat_ofNat]; exact Nat.mod_eq_of_lt (by omega)

theorem and_nat (a b : Nat) (ha : a < 4294967296) (hb : b < 4294967296) : bits .and .u32 (a : Int) (b : Int) = ((a &&& b : Nat) : Int) := by
  have hx : a &&& b < 2 ^ 32 := Nat.and_lt_two_pow _ (by omega)
  show IntKind.u32.wrap ((BitVec.ofInt 32 (a : Int) &&& BitVec.ofInt 32 (b : Int)).toNat : Int) = _
  rw [BitVec.toNat_and, ofInt_nat a ha, ofInt_nat b hb, w32]
  omega

theorem or_nat (a b : Nat) (ha : a < 4294967296) (hb : b < 4294967296) : bits .or .u32 (a : Int) (b : Int) = ((a ||| b : Nat) : Int) := by
  have hx : a ||| b < 2 ^ 32 := Nat.or_lt_two_pow (by omega) (by omega)
  show IntKind.u32.wrap ((BitVec.ofInt 32 (a : Int) ||| BitVec.ofInt 32 (b : Int)).toNat : Int) = _
  rw [BitVec.toNat_or, ofInt_nat a ha, ofInt_nat b hb, w32]
  omega

/-- The bits of the one that are not in the other. -/
def sub32 (a b : Nat) : Nat := (BitVec.ofNat 32 a &&& ~~~ BitVec.ofNat 32 b).toNat

theorem sub_nat (a b : Nat) : bits .andNot .u32 (a : Int) (b : Int) = ((sub32 a b : Nat) : Int) := by
  have hx : sub32 a b < 2 ^ 32 := BitVec.isLt _
  show IntKind.u32.wrap ((BitVec.ofInt 32 (a : Int) &&& ~~~ BitVec.ofInt 32 (b : Int)).toNat : Int) = _
  rw [BitVec.ofInt_natCast, BitVec.ofInt_natCast, w32]
  show ((sub32 a b : Nat) : Int) % 4294967296 = _
  omega

theorem sub_lt (a b : Nat) : sub32 a b < 4294967296 := BitVec.isLt _

theorem sub_bit (a b i : Nat) (hi : i < 32) : (sub32 a b).testBit i = (a.testBit i && !b.testBit i) := by
  show (BitVec.ofNat 32 a &&& ~~~ BitVec.ofNat 32 b).toNat.testBit i = _
  rw [BitVec.testBit_toNat, BitVec.getLsbD_and, BitVec.getLsbD_not, BitVec.getLsbD_ofNat, BitVec.getLsbD_ofNat]
  simp [hi]

theorem ext32 {a b : Nat} (ha : a < 4294967296) (hb : b < 4294967296) (h : ∀ i, i < 32 → a.testBit i = b.testBit i) : a = b := by
  apply Nat.eq_of_testBit_eq
  intro i
  by_cases hi : i < 32
  · exact h i hi
  · have p : (2 : Nat) ^ 32 ≤ 2 ^ i := Nat.pow_le_pow_right (by decide) (by omega)
    rw [Nat.testBit_lt_two_pow (by omega), Nat.testBit_lt_two_pow (by omega)]

/-- How many bits are one. -/
def pop (x : Nat) : Nat := if h : x = 0 then 0 else x % 2 + pop (x / 2)
decreasing_by omega

theorem pop_zero : pop 0 = 0 := by rw [pop]; simp
theorem pop_step (x : Nat) : pop x = x % 2 + pop (x / 2) := by
  by_cases h : x = 0
  · subst h; simp [pop_zero]
  · rw [pop]; simp [h]
theorem pop_two (x : Nat) : pop (2 * x) = pop x := by rw [pop_step]; simp
theorem pop_odd (x : Nat) : pop (2 * x + 1) = pop x + 1 := by
  rw [pop_step, show (2 * x + 1) % 2 = 1 by omega, show (2 * x + 1) / 2 = x by omega]; omega

theorem and_two (a b : Nat) : (2 * a) &&& (2 * b + 1) = 2 * (a &&& b) := by
  apply Nat.eq_of_testBit_eq; intro i
  cases i with
  | zero => simp [Nat.testBit_zero]
  | succ i =>
    rw [Nat.testBit_and, Nat.testBit_succ, Nat.testBit_succ, Nat.testBit_succ,
      show (2 * b + 1) / 2 = b by omega, show 2 * a / 2 = a by omega, show 2 * (a &&& b) / 2 = a &&& b by omega, Nat.testBit_and]
theorem and_two' (a b : Nat) : (2 * a + 1) &&& (2 * b) = 2 * (a &&& b) := by
  rw [Nat.and_comm, and_two, Nat.and_comm]

theorem pop_drop : ∀ x : Nat, 0 < x → pop (x &&& (x - 1)) + 1 = pop x := by
  intro x
  induction x using Nat.strongRecOn with
  | ind x ih =>
    intro hx
    rcases Nat.mod_two_eq_zero_or_one x with h | h
    · obtain ⟨y, rfl⟩ : ∃ y, x = 2 * y := ⟨x / 2, by omega⟩
      have hy : 0 < y := by omega
      rw [show 2 * y - 1 = 2 * (y - 1) + 1 by omega, and_two, pop_two, pop_two]
      exact ih y (by omega) hy
    · obtain ⟨y, rfl⟩ : ∃ y, x = 2 * y + 1 := ⟨x / 2, by omega⟩
      rw [show 2 * y + 1 - 1 = 2 * y by omega, and_two', Nat.and_self, pop_two, pop_odd]

theorem pop_bound : ∀ (n x : Nat), x < 2 ^ n → pop x ≤ n
  | 0, x, h => by have : x = 0 := by simpa using h
                  subst this; simp [pop_zero]
  | n + 1, x, h => by
    have := pop_bound n (x / 2) (by rw [Nat.pow_succ] at h; omega)
    rw [pop_step]; omega

theorem pop_mono : ∀ (n x y : Nat), x < 2 ^ n → (∀ i, x.testBit i = true → y.testBit i = true) → pop x ≤ pop y
  | 0, x, y, h, _ => by have : x = 0 := by simpa using h
                        subst this; simp [pop_zero]
  | n + 1, x, y, h, k => by
    have i := pop_mono n (x / 2) (y / 2) (by rw [Nat.pow_succ] at h; omega) (fun i hi => by
      have := k (i + 1) (by rw [Nat.testBit_succ]; exact hi)
      rwa [Nat.testBit_succ] at this)
    have z := k 0
    rw [Nat.testBit_zero, Nat.testBit_zero] at z
    rw [pop_step x, pop_step y]
    have : x % 2 ≤ y % 2 := by
      by_cases hx : x % 2 = 1
      · have : y % 2 = 1 := by simpa using z (by simpa using hx)
        omega
      · omega
    omega

theorem and_low (x y n : Nat) (h : x < 2 ^ n) : x &&& y < 2 ^ n := Nat.lt_of_le_of_lt Nat.and_le_left h

/-- The sum of the low bits. -/
theorem pop_low (x j : Nat) : pop (x % 2 ^ (j + 1)) = pop (x % 2 ^ j) + (x / 2 ^ j) % 2 := by
  induction j generalizing x with
  | zero =>
    rw [Nat.pow_zero, Nat.mod_one, Nat.div_one, pop_zero, pop_step, show x % 2 ^ (0 + 1) / 2 = 0 by omega, pop_zero]; omega
  | succ j ih =>
    rw [pop_step (x % 2 ^ (j + 1 + 1)), pop_step (x % 2 ^ (j + 1))]
    have e (m : Nat) : x % 2 ^ (m + 1) / 2 = x / 2 % 2 ^ m := by
      rw [Nat.pow_succ, Nat.mul_comm, Nat.mod_mul_right_div_self]
    have o (m : Nat) : x % 2 ^ (m + 1) % 2 = x % 2 := Nat.mod_mod_of_dvd _ ⟨2 ^ m, by rw [Nat.pow_succ, Nat.mul_comm]⟩
    rw [e, e, o, o, ih (x / 2), Nat.div_div_eq_div_mul, show 2 * 2 ^ j = 2 ^ (j + 1) by rw [Nat.pow_succ, Nat.mul_comm]]
    omega

theorem bit_div (x i : Nat) : x / 2 ^ i % 2 = if x.testBit i then 1 else 0 := by
  rw [Nat.testBit_eq_decide_div_mod_eq]
  by_cases h : x / 2 ^ i % 2 = 1
  · simp [h]
  · simp [h]; omega

theorem low_step (z j : Nat) : z % 2 ^ (j + 1) = z % 2 ^ j + (if z.testBit j then 2 ^ j else 0) := by
  rw [Nat.mod_pow_succ, bit_div]
  split
  · rw [Nat.mul_one]
  · rw [Nat.mul_zero]

end Go.Proofs.Ytmbkkkpakjippaa.Wb
