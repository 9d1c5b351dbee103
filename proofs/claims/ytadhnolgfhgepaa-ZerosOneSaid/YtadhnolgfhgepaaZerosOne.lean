/- The plain truth of ZerosOne. -/
import Derived.Test.YtadhnolgfhgepaaFlaw02
import Derived.Test.YtadhnolgfhgepaaQAwake02
namespace Go.Proofs.Ytadhnolgfhgepaa.Pure
open Go Go.Proofs.Ytadhnolgfhgepaa.Va
set_option linter.unusedVariables false
set_option linter.unusedSimpArgs false

theorem ZerosOne (a0 : Int) (a1 : Int) (w0 : InR .i64 a0) (w1 : InR .u32 a1) : law02_ZerosOne.c a0 a1 = some true := by
  have hn := w0.i64
  simp only [law02_ZerosOne.c, law02_ZerosOne.t, Tw.run_opt, Tw.run_bb, Tw.run_ret, zeros_Twin_eq a0 w0, Option.bind_some, awake02, decide_eq_true_eq]
  by_cases h : a0 < 0 ∨ a0 > 65535
  · rw [if_pos h]
    rcases h with h | h
    · simp [h]
    · simp [h]
  · rw [if_neg h]
    have h0 : 0 ≤ a0 := by omega
    have h1 : a0 ≤ 65535 := by omega
    have hu := w1.u32
    obtain ⟨n, rfl⟩ := Int.eq_ofNat_of_zero_le h0
    obtain ⟨u, rfl⟩ := Int.eq_ofNat_of_zero_le hu.1
    have et : twin (n : Int) = (((65535 - n) * 65536 + n : Nat) : Int) := by unfold twin; omega
    have hx : (65535 - n) * 65536 + n < 4294967296 := by omega
    rw [et]
    simp only [bOr_nat _ u hx (show u < 4294967296 by omega)]
    obtain ⟨y, hy⟩ : ∃ y, y = ((65535 - n) * 65536 + n) ||| u := ⟨_, rfl⟩
    rw [← hy]
    have hy1 : y < 2 ^ 32 := by rw [hy]; exact Nat.or_lt_two_pow (by omega) (by omega)
    have hlo : ((65535 - n) * 65536 + n) % 65536 ≤ y % 65536 := by
      have := Nat.or_mod_two_pow (a := (65535 - n) * 65536 + n) (b := u) (n := 16)
      rw [← hy] at this
      rw [show (65536 : Nat) = 2 ^ 16 by decide] at *
      rw [this]
      exact Nat.left_le_or
    have hhi : ((65535 - n) * 65536 + n) / 65536 ≤ y / 65536 := by
      have := Nat.or_div_two_pow (a := (65535 - n) * 65536 + n) (b := u) (n := 16)
      rw [← hy] at this
      rw [show (65536 : Nat) = 2 ^ 16 by decide] at *
      rw [this]
      exact Nat.left_le_or
    have hyr : InR .u32 (y : Int) := inR_u32 ⟨by omega, by omega⟩
    simp only [zeros_Told_eq hyr, Option.bind_some]
    unfold toldR
    by_cases hc : (y : Int) / 65536 = 65535 - (y : Int) % 65536
    · rw [if_pos hc]
      have hyn : y = (65535 - n) * 65536 + n := by omega
      have hm : (y : Int) % 65536 = (n : Int) := by omega
      rw [hm, hyn]
      simp
    · rw [if_neg hc]
      have hyn : ¬ y = (65535 - n) * 65536 + n := by omega
      simp
      omega

end Go.Proofs.Ytadhnolgfhgepaa.Pure
