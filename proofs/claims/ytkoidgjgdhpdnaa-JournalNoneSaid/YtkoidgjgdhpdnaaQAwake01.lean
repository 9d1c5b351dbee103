/- Layer 1: what must come at any rate, comes. -/
import Derived.Test.YtkoidgjgdhpdnaaQWord
namespace Go.Proofs.Ytkoidgjgdhpdnaa.Pure
open Go Go.Proofs.Ytkoidgjgdhpdnaa.Va
set_option linter.unusedVariables false
set_option linter.unusedSimpArgs false

/-- How many bits are one. -/
def pop (x : Nat) : Nat := if h : x = 0 then 0 else x % 2 + pop (x / 2)
decreasing_by omega
theorem pop_zero : pop 0 = 0 := by rw [pop]; simp
theorem pop_step (x : Nat) : pop x = x % 2 + pop (x / 2) := by
  by_cases h : x = 0
  · subst h; simp [pop_zero]
  · rw [pop]; simp [h]

/-- Clearing the lowest bit that is one. -/
theorem pop_clear : ∀ (n x : Nat), x ≤ n → x ≠ 0 → pop (x &&& (x - 1)) + 1 = pop x ∧ x &&& (x - 1) < x := by
  intro n
  induction n with
  | zero => intro x h h0; omega
  | succ n ih =>
    intro x h h0
    have hlt : x &&& (x - 1) < x := Nat.lt_of_le_of_lt Nat.and_le_right (by omega)
    refine ⟨?_, hlt⟩
    rw [pop_step x, pop_step (x &&& (x - 1))]
    have hm : (x &&& (x - 1)) % 2 = 0 := by
      have := Nat.and_mod_two_pow (a := x) (b := x - 1) (n := 1)
      simp only [Nat.pow_one] at this
      rw [this]
      have h2 : x % 2 = 0 ∨ x % 2 = 1 := by omega
      rcases h2 with h2 | h2
      · rw [h2, Nat.zero_and]
      · have : (x - 1) % 2 = 0 := by omega
        rw [this, Nat.and_zero]
    have hd : (x &&& (x - 1)) / 2 = x / 2 &&& (x - 1) / 2 := by
      have := Nat.and_div_two_pow (a := x) (b := x - 1) (n := 1)
      simpa using this
    rw [hm, hd]
    rcases Nat.mod_two_eq_zero_or_one x with h2 | h2
    · have e : (x - 1) / 2 = x / 2 - 1 := by omega
      rw [e, h2]
      have := (ih (x / 2) (by omega) (by omega)).1
      omega
    · have e : (x - 1) / 2 = x / 2 := by omega
      rw [e, h2, Nat.and_self]
      omega
theorem pop_le : ∀ (k x : Nat), x < 2 ^ k → pop x ≤ k
  | 0, x, h => by
    have : x = 0 := by simpa using h
    subst this
    rw [pop_zero]; omega
  | k + 1, x, h => by
    rw [pop_step]
    have := pop_le k (x / 2) (by rw [Nat.pow_succ] at h; omega)
    omega

theorem word_Ones_L2 : ∀ (n x : Nat), x ≤ n → x < 4294967296 → ∀ m : Nat, m + pop x < 4611686018427387904 → word_Ones.L2 (x : Int) (m : Int) = some ((m + pop x : Nat) : Int) := by
  have stop (m : Nat) : word_Ones.L2 ((0 : Nat) : Int) (m : Int) = some ((m + pop 0 : Nat) : Int) := by
    refine Lp_end ?_
    simp [word_Ones.l2, Tw.run_bb, Tw.run_ret, pop_zero]
  intro n
  induction n with
  | zero =>
    intro x hx _ m _
    have : x = 0 := by omega
    subst this
    exact stop m
  | succ n ih =>
    intro x hx hlt m hm
    by_cases h0 : x = 0
    · subst h0
      exact stop m
    · obtain ⟨h1, h2⟩ := pop_clear x x (Nat.le_refl _) h0
      have e1 : w32 ((x : Int) - 1) = ((x - 1 : Nat) : Int) := by rw [w32_of (by omega) (by omega)]; omega
      have e2 : w64 ((m : Int) + 1) = ((m + 1 : Nat) : Int) := by rw [w64_of (by omega) (by omega)]; omega
      refine (Lp_next (s' := (((x &&& (x - 1) : Nat) : Int), ((m + 1 : Nat) : Int))) ?_).trans ?_
      · simp only [word_Ones.l2, Tw.run_bb, Tw.run_ret, e1, e2, bAnd_nat x (x - 1) hlt (by omega)]
        rw [if_pos (by simp; omega)]
      · refine (ih _ (by omega) (by omega) (m + 1) (by omega)).trans ?_
        congr 2
        omega
theorem word_Ones_eq (x : Nat) (h : x < 4294967296) : word_Ones.c (x : Int) = some ((pop x : Nat) : Int) := by
  have hp := pop_le 32 x (by simpa using h)
  have := word_Ones_L2 x x (Nat.le_refl _) h 0 (by omega)
  simp only [word_Ones.c, word_Ones.t, Tw.run_opt, Tw.run_ret]
  rw [show (0 : Int) = ((0 : Nat) : Int) from rfl, this]
  simp

end Go.Proofs.Ytkoidgjgdhpdnaa.Pure
