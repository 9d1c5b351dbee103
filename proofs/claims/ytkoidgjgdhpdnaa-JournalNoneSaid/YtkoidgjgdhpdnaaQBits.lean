/- The document's bits: one by one, they are what the words' bits say at once. -/
import Derived.Test.YtkoidgjgdhpdnaaQX
import Derived.Test.YtkoidgjgdhpdnaaFref01
namespace Go.Proofs.Ytkoidgjgdhpdnaa.Pure
open Go Go.Proofs.Ytkoidgjgdhpdnaa.Va
set_option linter.unusedVariables false
set_option linter.unusedSimpArgs false

theorem bit_div (x i : Nat) : x / 2 ^ i % 2 = if x.testBit i then 1 else 0 := by
  rw [Nat.testBit_eq_decide_div_mod_eq]
  by_cases h : x / 2 ^ i % 2 = 1
  · simp [h]
  · rw [if_neg (by simpa using h)]; omega

theorem ref01_bits_bit_eq (x i : Nat) (hx : x < 4294967296) (hi : i ≤ 32) : ref01_bit.c (x : Int) (i : Int) = some (if x.testBit i then 1 else 0) := by
  have hl : ref01_bit.L2 (x : Int) (i : Int) 0 = some ((x / 2 ^ i : Nat) : Int) := by
    unfold ref01_bit.L2
    rw [show ((x : Int), (0 : Int)) = (fun k : Nat => (((x / 2 ^ k : Nat) : Int), (k : Int))) 0 by simp]
    refine Lp_seq _ (fun k : Nat => (((x / 2 ^ k : Nat) : Int), (k : Int))) i 0 (fun k _ hk => ?_) ?_
    · simp only [ref01_bit.l2]
      have hk' : k < i := by omega
      rw [bb_pos (decide_eq_true (by omega))]
      rw [show (2 : Int) = ((2 : Nat) : Int) from rfl, tdiv_nat, Nat.div_div_eq_div_mul, show (2 : Nat) ^ k * 2 = 2 ^ (k + 1) from rfl]
      have : x / 2 ^ (k + 1) ≤ x := Nat.div_le_self _ _
      generalize x / 2 ^ (k + 1) = y at *
      rw [w32_of (by omega) (by omega), w64_of (by omega) (by omega)]
      rfl
    · simp only [ref01_bit.l2, Nat.zero_add]
      rw [bb_neg (decide_eq_false (by omega))]
      rfl
  simp only [ref01_bit.c, ref01_bit.t, Tw.run_opt, hl, Option.bind_some, Tw.run_ret]
  rw [show (2 : Int) = ((2 : Nat) : Int) from rfl, tmod_nat, bit_div]
  split <;> rfl

/-- What the document's bits come to: 0 a bit of the first that the second has not, 1 a torn word, 2 a raised one. -/
def bitsN (a b m kind : Nat) : Nat := if kind = 0 then sub32 a b else if kind = 1 then sub32 a (sub32 m b) else a ||| m
theorem bitsN_lt {a b m kind : Nat} (ha : a < 4294967296) (hm : m < 4294967296) : bitsN a b m kind < 4294967296 := by
  unfold bitsN
  split
  · exact sub_lt _ _
  · split
    · exact sub_lt _ _
    · exact Nat.or_lt_two_pow (n := 32) (by omega) (by omega)
theorem bitsN_bit {a b m kind i : Nat} (hi : i < 32) : (bitsN a b m kind).testBit i = if kind = 0 then a.testBit i && !b.testBit i else if kind = 1 then a.testBit i && !(m.testBit i && !b.testBit i) else a.testBit i || m.testBit i := by
  unfold bitsN
  split
  · exact sub_bit _ _ _ hi
  · split
    · rw [sub_bit _ _ _ hi, sub_bit _ _ _ hi]
    · rw [Nat.testBit_or]

theorem ref01_Bits_eq (a b m kind : Nat) (ha : a < 4294967296) (hb : b < 4294967296) (hm : m < 4294967296) (hk : kind ≤ 2) :
    ref01_Bits.c (a : Int) (b : Int) (m : Int) (kind : Int) = some ((bitsN a b m kind : Nat) : Int) := by
  have hN := bitsN_lt (b := b) (kind := kind) ha hm
  have hl : ref01_Bits.L4 (a : Int) (b : Int) (m : Int) (kind : Int) 0 1 0 = some ((bitsN a b m kind : Nat) : Int) := by
    unfold ref01_Bits.L4
    rw [show ((0 : Int), ((1 : Int), (0 : Int))) = (fun i : Nat => (((bitsN a b m kind % 2 ^ i : Nat) : Int), (((2 ^ i % 2 ^ 32 : Nat) : Int), (i : Int)))) 0 by simp [Nat.mod_one]]
    refine Lp_seq _ (fun i : Nat => (((bitsN a b m kind % 2 ^ i : Nat) : Int), (((2 ^ i % 2 ^ 32 : Nat) : Int), (i : Int)))) 32 0 (fun i _ hi => ?_) ?_
    · have hi' : i < 32 := by omega
      have e1 := ref01_bits_bit_eq a i ha (by omega)
      have e2 := ref01_bits_bit_eq b i hb (by omega)
      have e3 := ref01_bits_bit_eq m i hm (by omega)
      have hp : (2 : Nat) ^ (i + 1) ≤ 2 ^ 32 := Nat.pow_le_pow_right (by decide) (by omega)
      have hp0 : (0 : Nat) < 2 ^ i := Nat.pow_pos (by decide)
      have hp2 : (2 : Nat) ^ (i + 1) = 2 * 2 ^ i := by rw [Nat.pow_succ, Nat.mul_comm]
      have hb : bitsN a b m kind % 2 ^ (i + 1) = bitsN a b m kind % 2 ^ i + 2 ^ i * (bitsN a b m kind / 2 ^ i % 2) := Nat.mod_pow_succ
      rw [bit_div, bitsN_bit hi'] at hb
      have hlt : bitsN a b m kind % 2 ^ i < 2 ^ i := Nat.mod_lt _ hp0
      have hw : (2 : Nat) ^ i % 2 ^ 32 = 2 ^ i := Nat.mod_eq_of_lt (by omega)
      have hw2 : w32 (((2 ^ i : Nat) : Int) * 2) = ((2 ^ (i + 1) % 2 ^ 32 : Nat) : Int) := by rw [w32_eq, hp2]; omega
      have hi1 : w64 ((i : Int) + 1) = ((i + 1 : Nat) : Int) := by rw [w64_of (by omega) (by omega)]; rfl
      have hkk : kind = 0 ∨ kind = 1 ∨ kind = 2 := by omega
      generalize hT : bitsN a b m kind % 2 ^ i = T at *
      have ho : w32 ((T : Int) + ((2 ^ i : Nat) : Int)) = ((T + 2 ^ i : Nat) : Int) := by rw [w32_of (by omega) (by omega)]; omega
      simp only [ref01_Bits.l4, hw]
      rw [bb_pos (decide_eq_true (by omega))]
      simp only [Tw.run_opt, e1, e2, e3, Option.bind_some]
      generalize hB : (if kind = 0 then a.testBit i && !b.testBit i else if kind = 1 then a.testBit i && !(m.testBit i && !b.testBit i) else a.testBit i || m.testBit i) = B at hb
      have hF : ∀ (o wq iq : Int), (Tw.bb ((kind : Int) == (0 : Int))
        (Tw.bb ((if a.testBit i = true then (1 : Int) else 0) == (1 : Int))
         (Tw.bb ((if b.testBit i = true then (1 : Int) else 0) == (0 : Int)) (.ret (.inl (o, (wq, iq)))) (.ret (.inl ((T : Int), (wq, iq)))))
         (.ret (.inl ((T : Int), (wq, iq)))))
        (Tw.bb ((kind : Int) == (1 : Int))
         (Tw.bb ((if a.testBit i = true then (1 : Int) else 0) == (1 : Int))
          (Tw.bb ((if b.testBit i = true then (1 : Int) else 0) == (0 : Int))
           (Tw.bb (!((if m.testBit i = true then (1 : Int) else 0) == (1 : Int))) (.ret (.inl (o, (wq, iq)))) (.ret (.inl ((T : Int), (wq, iq)))))
           (.ret (.inl (o, (wq, iq)))))
          (.ret (.inl ((T : Int), (wq, iq)))))
         (Tw.bb ((kind : Int) == (2 : Int))
          (Tw.bb ((if a.testBit i = true then (1 : Int) else 0) == (1 : Int)) (.ret (.inl (o, (wq, iq))))
           (Tw.bb ((if m.testBit i = true then (1 : Int) else 0) == (1 : Int)) (.ret (.inl (o, (wq, iq)))) (.ret (.inl ((T : Int), (wq, iq))))))
          (.ret (.inl ((T : Int), (wq, iq))))))).run = some (Sum.inl (α := Int × (Int × Int)) (β := Int) ((if B then o else (T : Int)), (wq, iq))) := by
        intro o wq iq
        subst hB
        rcases hkk with rfl | rfl | rfl <;> cases a.testBit i <;> cases b.testBit i <;> cases m.testBit i <;> rfl
      rw [hF, hw2, hi1, hb, ho]
      cases B <;> simp
    · simp only [ref01_Bits.l4, Nat.zero_add]
      rw [bb_neg (decide_eq_false (by omega))]
      rw [Nat.mod_eq_of_lt (show bitsN a b m kind < 2 ^ 32 by omega)]
      rfl
  simp only [ref01_Bits.c, ref01_Bits.t, Tw.run_opt, hl, Option.bind_some, Tw.run_ret]

end Go.Proofs.Ytkoidgjgdhpdnaa.Pure
