/- The document's bits: one by one, they are what the words' bits say at once. -/
import Derived.Test.YtmlbioapefgioaaQX
namespace Go.Proofs.Ytmlbioapefgioaa.Pure
open Go Go.Proofs.Ytmlbioapefgioaa.Va
set_option linter.unusedVariables false
set_option linter.unusedSimpArgs false

theorem bit_div (x i : Nat) : x / 2 ^ i % 2 = if x.testBit i then 1 else 0 := by
  rw [Nat.testBit_eq_decide_div_mod_eq]
  by_cases h : x / 2 ^ i % 2 = 1
  · simp [h]
  · rw [if_neg (by simpa using h)]; omega

/-- What the document's bits come to: 0 a bit of the first that the second has not, 1 a torn word, 2 a raised one. -/
def bitsN (a b m kind : Nat) : Nat := if kind = 0 then sub32 a b else if kind = 1 then sub32 a (sub32 m b) else a ||| m
theorem bitsN_lt {a b m kind : Nat} (ha : a < 4294967296) (hm : m < 4294967296) : bitsN a b m kind < 4294967296 := by
  unfold bitsN
  split
  · exact sub_lt _ _
  · split
    · exact sub_lt _ _
    · exact Nat.or_lt_two_pow (n := 32) (by omega) (by omega)
theorem bitsN_bit {a b m kind i : Nat} (hi : i < 32) : (bitsN a b m kind).testBit i = if kind = 0 then a.testBit i && !b.testBit i else if kind = 1 then a.testBit i && !(m.testBit i && !b.testBit i) else a.testBit i || m.testBit i := by
  unfold bitsN
  split
  · exact sub_bit _ _ _ hi
  · split
    · rw [sub_bit _ _ _ hi, sub_bit _ _ _ hi]
    · rw [Nat.testBit_or]

end Go.Proofs.Ytmlbioapefgioaa.Pure
