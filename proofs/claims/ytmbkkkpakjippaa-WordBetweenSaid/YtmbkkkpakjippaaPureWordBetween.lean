import Derived.Test.YtmbkkkpakjippaaPWordBetweenx1
import Derived.Test.YtmbkkkpakjippaaWb
namespace Go.Proofs.Ytmbkkkpakjippaa.Pure
open Go Go.RowKit Go.Proofs.Ytmbkkkpakjippaa.PWordBetween Go.Proofs.Ytmbkkkpakjippaa.Wb

namespace WBetween
theorem w64 (n : Int) (h : -9223372036854775808 ≤ n ∧ n ≤ 9223372036854775807) : wrap64 n = n := by unfold wrap64; omega

theorem ones_loop : ∀ (k x n : Nat), x < 4294967296 → pop x < k → n + pop x ≤ 1000 → word_Ones.l0 k (x : Int) (n : Int) = some ((n + pop x : Nat) : Int)
  | 0, _, _, _, h, _ => by omega
  | k + 1, x, n, hx, hk, hn => by
    rw [word_Ones.l0]
    by_cases h : x = 0
    · subst h; simp [pop_zero]
    · have hp := pop_drop x (by omega)
      have hm : ((x : Int) - 1) % 4294967296 = ((x - 1 : Nat) : Int) := by omega
      have hl : x &&& (x - 1) ≤ x := Nat.and_le_left
      rw [if_neg (by omega), hm, and_nat _ _ hx (by omega), w64 _ (by omega), show (n : Int) + 1 = ((n + 1 : Nat) : Int) by omega,
        ones_loop k _ _ (by omega) (by omega) (by omega)]
      congr 1; omega

theorem ones (k x : Nat) (hx : x < 4294967296) (hk : 33 ≤ k) : word_Ones.f k (x : Int) = some ((pop x : Nat) : Int) := by
  have := pop_bound 32 x hx
  have h := ones_loop k x 0 hx (by omega) (by omega)
  rw [Nat.zero_add] at h
  exact h


theorem awake : ∃ K, ∀ k, K ≤ k → instarlaw01_awake.f k = some true := by
  have base : instarlaw01_awake.f 40 = some true := by kernel_rfl
  refine ⟨40, fun k hk => ?_⟩
  obtain ⟨d, rfl⟩ := Nat.exists_eq_add_of_le hk
  clear hk
  induction d with
  | zero => exact base
  | succ d ih => exact instarlaw01_awake.mono (40 + d) _ ih

theorem within (a b : Nat) : word_Within.f (a : Int) (b : Int) = some (decide (sub32 a b = 0)) := by
  rw [word_Within.f, sub_nat]
  congr 1
  by_cases h : sub32 a b = 0
  · rw [h]; rfl
  · rw [decide_eq_false h]
    have : ((sub32 a b : Nat) : Int) ≠ 0 := by omega
    simpa using this

theorem sub_zero_of (a b : Nat) (h : ∀ i, i < 32 → a.testBit i = true → b.testBit i = true) : sub32 a b = 0 := by
  refine ext32 (sub_lt _ _) (by omega) fun i hi => ?_
  rw [sub_bit _ _ _ hi, Nat.zero_testBit]
  have := h i hi
  cases ha : a.testBit i
  · rfl
  · rw [this ha]; rfl

theorem ff (i : Nat) (hi : i < 32) : Nat.testBit 4294967295 i = true := by
  rw [show 4294967295 = 2 ^ 32 - 1 by rfl, Nat.testBit_two_pow_sub_one]
  simpa using hi

end WBetween
open WBetween

theorem WordBetween : instarlaw01_WordBetween.Pure := by
  intro a0 a1 a2 h0 h1 h2
  obtain ⟨a, rfl, ha⟩ : ∃ a : Nat, a0 = a ∧ a < 4294967296 := ⟨a0.toNat, by simp [Lit.wf, IntKind.min, IntKind.max, IntKind.bits, IntKind.signed] at h0; omega, by simp [Lit.wf, IntKind.min, IntKind.max, IntKind.bits, IntKind.signed] at h0; omega⟩
  obtain ⟨b, rfl, hb⟩ : ∃ a : Nat, a1 = a ∧ a < 4294967296 := ⟨a1.toNat, by simp [Lit.wf, IntKind.min, IntKind.max, IntKind.bits, IntKind.signed] at h1; omega, by simp [Lit.wf, IntKind.min, IntKind.max, IntKind.bits, IntKind.signed] at h1; omega⟩
  obtain ⟨m, rfl, hm⟩ : ∃ a : Nat, a2 = a ∧ a < 4294967296 := ⟨a2.toNat, by simp [Lit.wf, IntKind.min, IntKind.max, IntKind.bits, IntKind.signed] at h2; omega, by simp [Lit.wf, IntKind.min, IntKind.max, IntKind.bits, IntKind.signed] at h2; omega⟩
  obtain ⟨K, hK⟩ := awake
  refine ⟨K + 70, ?_⟩
  have torn (x y z : Nat) : word_Torn.f (x : Int) (y : Int) (z : Int) = some ((sub32 x (sub32 z y) : Nat) : Int) := by
    rw [word_Torn.f, sub_nat, sub_nat]
  have tb (x y z i : Nat) (hi : i < 32) : (sub32 x (sub32 z y)).testBit i = (x.testBit i && !(z.testBit i && !y.testBit i)) := by
    rw [sub_bit _ _ _ hi, sub_bit _ _ _ hi]
  have e1 : sub32 (sub32 a (sub32 m b)) a = 0 := sub_zero_of _ _ fun i hi h => by
    rw [tb _ _ _ _ hi] at h; cases ha' : a.testBit i <;> simp_all
  have e2 : sub32 (sub32 a (sub32 4294967295 b)) (sub32 a (sub32 m b)) = 0 := sub_zero_of _ _ fun i hi h => by
    rw [tb _ _ _ _ hi, ff i hi] at h; rw [tb _ _ _ _ hi]
    cases ha' : a.testBit i <;> cases hb' : b.testBit i <;> simp_all
  have e3 : sub32 (sub32 a (sub32 4294967295 b)) b = 0 := sub_zero_of _ _ fun i hi h => by
    rw [tb _ _ _ _ hi, ff i hi] at h
    cases ha' : a.testBit i <;> cases hb' : b.testBit i <;> simp_all
  have e4 : sub32 a (sub32 0 b) = a := ext32 (sub_lt _ _) ha fun i hi => by
    rw [tb _ _ _ _ hi, Nat.zero_testBit]; simp
  have e5 : sub32 (sub32 a (sub32 m b)) (sub32 4294967295 b) = sub32 a (sub32 4294967295 b) := ext32 (sub_lt _ _) (sub_lt _ _) fun i hi => by
    rw [tb _ _ _ _ hi, tb _ _ _ _ hi, tb _ _ _ _ hi, ff i hi]
    cases a.testBit i <;> cases b.testBit i <;> cases m.testBit i <;> rfl
  have hor : a ||| m < 4294967296 := Nat.or_lt_two_pow (n := 32) ha hm
  have e6 : sub32 a (a ||| m) = 0 := sub_zero_of _ _ fun i hi h => by rw [Nat.testBit_or, h]; rfl
  have e7 : pop (sub32 a (sub32 4294967295 b)) ≤ pop a := pop_mono 32 _ _ (sub_lt _ _) fun i h => by
    by_cases hi : i < 32
    · rw [tb _ _ _ _ hi] at h; cases ha' : a.testBit i <;> simp_all
    · have p : (2 : Nat) ^ 32 ≤ 2 ^ i := Nat.pow_le_pow_right (by decide) (by omega)
      have := sub_lt a (sub32 4294967295 b)
      rw [Nat.testBit_lt_two_pow (by omega)] at h
      exact absurd h (by simp)
  rw [instarlaw01_WordBetween.f, torn, show (4294967295 : Int) = ((4294967295 : Nat) : Int) from rfl, torn, Option.bind_some, Option.bind_some,
    within _ _, Option.bind_some, e1, if_pos (by rfl), within _ _, Option.bind_some, e2, if_pos (by rfl),
    within _ _, Option.bind_some, e3, if_pos (by rfl), show (0 : Int) = ((0 : Nat) : Int) from rfl, torn, Option.bind_some, e4, if_pos rfl,
    torn, Option.bind_some, e5, if_pos rfl, word_Raised.f, Option.bind_some, or_nat _ _ ha hm, within _ _, Option.bind_some, e6, if_pos (by rfl),
    ones _ _ (sub_lt _ _) (by omega), Option.bind_some, ones _ _ ha (by omega), Option.bind_some, if_pos (by omega), hK _ (by omega)]
  rfl

end Go.Proofs.Ytmbkkkpakjippaa.Pure
