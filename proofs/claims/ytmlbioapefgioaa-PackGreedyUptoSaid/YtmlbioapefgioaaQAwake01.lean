/- Layer 1: what must come at any rate, comes. -/
import Derived.Test.YtmlbioapefgioaaQWord
namespace Go.Proofs.Ytmlbioapefgioaa.Pure
open Go Go.Proofs.Ytmlbioapefgioaa.Va
set_option linter.unusedVariables false
set_option linter.unusedSimpArgs false

/-- How many bits are one. -/
def pop (x : Nat) : Nat := if h : x = 0 then 0 else x % 2 + pop (x / 2)
decreasing_by omega
theorem pop_zero : pop 0 = 0 := by rw [pop]; simp
theorem pop_step (x : Nat) : pop x = x % 2 + pop (x / 2) := by
  by_cases h : x = 0
  · subst h; simp [pop_zero]
  · rw [pop]; simp [h]

/-- Clearing the lowest bit that is one. -/
theorem pop_clear : ∀ (n x : Nat), x ≤ n → x ≠ 0 → pop (x &&& (x - 1)) + 1 = pop x ∧ x &&& (x - 1) < x := by
  intro n
  induction n with
  | zero => intro x h h0; omega
  | succ n ih =>
    intro x h h0
    have hlt : x &&& (x - 1) < x := Nat.lt_of_le_of_lt Nat.and_le_right (by omega)
    refine ⟨?_, hlt⟩
    rw [pop_step x, pop_step (x &&& (x - 1))]
    have hm : (x &&& (x - 1)) % 2 = 0 := by
      have := Nat.and_mod_two_pow (a := x) (b := x - 1) (n := 1)
      simp only [Nat.pow_one] at this
      rw [this]
      have h2 : x % 2 = 0 ∨ x % 2 = 1 := by omega
      rcases h2 with h2 | h2
      · rw [h2, Nat.zero_and]
      · have : (x - 1) % 2 = 0 := by omega
        rw [this, Nat.and_zero]
    have hd : (x &&& (x - 1)) / 2 = x / 2 &&& (x - 1) / 2 := by
      have := Nat.and_div_two_pow (a := x) (b := x - 1) (n := 1)
      simpa using this
    rw [hm, hd]
    rcases Nat.mod_two_eq_zero_or_one x with h2 | h2
    · have e : (x - 1) / 2 = x / 2 - 1 := by omega
      rw [e, h2]
      have := (ih (x / 2) (by omega) (by omega)).1
      omega
    · have e : (x - 1) / 2 = x / 2 := by omega
      rw [e, h2, Nat.and_self]
      omega
theorem pop_le : ∀ (k x : Nat), x < 2 ^ k → pop x ≤ k
  | 0, x, h => by
    have : x = 0 := by simpa using h
    subst this
    rw [pop_zero]; omega
  | k + 1, x, h => by
    rw [pop_step]
    have := pop_le k (x / 2) (by rw [Nat.pow_succ] at h; omega)
    omega

end Go.Proofs.Ytmlbioapefgioaa.Pure
