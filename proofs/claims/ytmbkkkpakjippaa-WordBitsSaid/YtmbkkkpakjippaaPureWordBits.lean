import Derived.Test.YtmbkkkpakjippaaPWordBitsx2
import Derived.Test.YtmbkkkpakjippaaWb
namespace Go.Proofs.Ytmbkkkpakjippaa.Pure
open Go Go.RowKit Go.Proofs.Ytmbkkkpakjippaa.PWordBits Go.Proofs.Ytmbkkkpakjippaa.Wb

namespace WBits
theorem w64 (n : Int) (h : -9223372036854775808 ≤ n ∧ n ≤ 9223372036854775807) : wrap64 n = n := by unfold wrap64; omega

theorem ones_loop : ∀ (k x n : Nat), x < 4294967296 → pop x < k → n + pop x ≤ 1000 → word_Ones.l0 k (x : Int) (n : Int) = some ((n + pop x : Nat) : Int)
  | 0, _, _, _, h, _ => by omega
  | k + 1, x, n, hx, hk, hn => by
    rw [word_Ones.l0]
    by_cases h : x = 0
    · subst h; simp [pop_zero]
    · have hp := pop_drop x (by omega)
      have hm : ((x : Int) - 1) % 4294967296 = ((x - 1 : Nat) : Int) := by omega
      have hl : x &&& (x - 1) ≤ x := Nat.and_le_left
      rw [if_neg (by omega), hm, and_nat _ _ hx (by omega), w64 _ (by omega), show (n : Int) + 1 = ((n + 1 : Nat) : Int) by omega,
        ones_loop k _ _ (by omega) (by omega) (by omega)]
      congr 1; omega

theorem ones (k x : Nat) (hx : x < 4294967296) (hk : 33 ≤ k) : word_Ones.f k (x : Int) = some ((pop x : Nat) : Int) := by
  have := pop_bound 32 x hx
  have h := ones_loop k x 0 hx (by omega) (by omega)
  rw [Nat.zero_add] at h
  exact h


theorem awake : ∃ K, ∀ k, K ≤ k → instarlaw01_awake.f k = some true := by
  have base : instarlaw01_awake.f 40 = some true := by kernel_rfl
  refine ⟨40, fun k hk => ?_⟩
  obtain ⟨d, rfl⟩ := Nat.exists_eq_add_of_le hk
  clear hk
  induction d with
  | zero => exact base
  | succ d ih => exact instarlaw01_awake.mono (40 + d) _ ih
theorem bit_loop : ∀ (k x i j : Nat), j ≤ i → i ≤ 32 → i - j < k → x < 4294967296 →
    instarref01_bit.l0 k (x : Int) (i : Int) (j : Int) = some ((x / 2 ^ (i - j) % 2 : Nat) : Int)
  | 0, _, _, _, _, _, h, _ => by omega
  | k + 1, x, i, j, hj, hi, hk, hx => by
    rw [instarref01_bit.l0]
    by_cases h : j < i
    · have e : Int.tdiv (x : Int) 2 % 4294967296 = ((x / 2 : Nat) : Int) := by
        rw [Int.tdiv_eq_ediv_of_nonneg (by omega)]; omega
      rw [if_pos (by omega), e, w64 _ (by omega), show (j : Int) + 1 = ((j + 1 : Nat) : Int) by omega,
        bit_loop k _ i (j + 1) (by omega) hi (by omega) (by omega), Nat.div_div_eq_div_mul,
        show 2 * 2 ^ (i - (j + 1)) = 2 ^ (i - j) by rw [Nat.mul_comm, ← Nat.pow_succ]; congr 1; omega]
    · obtain rfl : j = i := by omega
      rw [if_neg (by omega), Nat.sub_self, Nat.pow_zero, Nat.div_one, Int.tmod_eq_emod_of_nonneg (by omega)]
      rfl

theorem bit_of (k x i : Nat) (hi : i ≤ 32) (hk : 33 ≤ k) (hx : x < 4294967296) :
    instarref01_bit.f k (x : Int) (i : Int) = some (if x.testBit i then 1 else 0) := by
  have h := bit_loop k x i 0 (by omega) hi (by omega) hx
  rw [Nat.sub_zero, bit_div] at h
  refine Eq.trans h ?_
  split <;> rfl

theorem rones_loop : ∀ (k x j : Nat), j ≤ 32 → x < 4294967296 → 32 - j + 33 < k →
    instarref01_Ones.l0 k (x : Int) ((pop (x % 2 ^ j) : Nat) : Int) (j : Int) = some ((pop x : Nat) : Int)
  | 0, _, _, _, _, h => by omega
  | k + 1, x, j, hj, hx, hk => by
    rw [instarref01_Ones.l0]
    by_cases h : j < 32
    · have b := pop_bound 32 (x % 2 ^ (j + 1)) (Nat.lt_of_le_of_lt (Nat.mod_le _ _) hx)
      have s := pop_low x j
      rw [bit_div] at s
      obtain ⟨c, hc, hc1⟩ : ∃ c : Nat, c = (if x.testBit j then 1 else 0) ∧ c ≤ 1 := ⟨_, rfl, by split <;> omega⟩
      have hci : (if x.testBit j then (1 : Int) else 0) = (c : Int) := by rw [hc]; split <;> rfl
      rw [← hc] at s
      rw [if_pos (by omega), bit_of k x j (by omega) (by omega) hx, Option.bind_some, hci, w64 (j + 1) (by omega),
        show (j : Int) + 1 = ((j + 1 : Nat) : Int) by omega, w64 (c : Int) (by omega), w64 _ (by omega),
        ← rones_loop k x (j + 1) (by omega) hx (by omega)]
      congr 1
      omega
    · obtain rfl : j = 32 := by omega
      rw [if_neg (by omega), Nat.mod_eq_of_lt (show x < 2 ^ 32 from hx)]

theorem rones (k x : Nat) (hx : x < 4294967296) (hk : 70 ≤ k) : instarref01_Ones.f k (x : Int) = some ((pop x : Nat) : Int) := by
  have h := rones_loop k x 0 (by omega) hx (by omega)
  rw [Nat.pow_zero, Nat.mod_one, pop_zero] at h
  exact h

/-- Which bit the reference sets. -/
def setOf (kind : Nat) (a b m : Bool) : Bool :=
  if kind = 0 then a && !b else if kind = 1 then a && !(!b && m) else a || m

theorem bits_step (k : Nat) (a b m o p j : Int) (kind : Nat) (hkd : kind ≤ 2) (ba bb bm : Bool) (hj : j < 32)
    (fa : instarref01_bit.f k a j = some (if ba then 1 else 0)) (fb : instarref01_bit.f k b j = some (if bb then 1 else 0))
    (fm : instarref01_bit.f k m j = some (if bm then 1 else 0)) :
    instarref01_Bits.l0 (k + 1) a b m (kind : Int) o p j =
      instarref01_Bits.l0 k a b m (kind : Int) (if setOf kind ba bb bm then (o + p) % 4294967296 else o) ((p * 2) % 4294967296) (wrap64 (j + 1)) := by
  rw [instarref01_Bits.l0, if_pos hj, fa, fb, fm]
  simp only [Option.bind_some]
  have k0 : ((0 : Nat) : Int) = 0 := rfl
  have k1 : ((1 : Nat) : Int) = 1 := rfl
  have k2 : ((2 : Nat) : Int) = 2 := rfl
  obtain rfl | rfl | rfl : kind = 0 ∨ kind = 1 ∨ kind = 2 := by omega
  all_goals
    cases ba <;> cases bb <;> cases bm <;> simp [setOf]

theorem bits_loop (a b m z kind : Nat) (hkd : kind ≤ 2) (ha : a < 4294967296) (hb : b < 4294967296) (hm : m < 4294967296) (hz : z < 4294967296)
    (hs : ∀ i, i < 32 → z.testBit i = setOf kind (a.testBit i) (b.testBit i) (m.testBit i)) (k : Nat) : ∀ (j : Nat), j ≤ 32 → 32 - j + 33 < k →
    instarref01_Bits.l0 k (a : Int) (b : Int) (m : Int) (kind : Int) ((z % 2 ^ j : Nat) : Int) ((2 ^ j % 4294967296 : Nat) : Int) (j : Int) = some (z : Int) := by
  induction k with
  | zero => intro j _ h; omega
  | succ k ih =>
    intro j hj hk
    by_cases h : j < 32
    · have ih := ih (j + 1) (by omega) (by omega)
      have hp : 2 ^ j < 4294967296 := by
        have : 2 ^ j ≤ 2 ^ 31 := Nat.pow_le_pow_right (by decide) (by omega)
        omega
      have l1 : z % 2 ^ (j + 1) ≤ z := Nat.mod_le _ _
      have st := low_step z j
      have sj := hs j h
      rw [bits_step k _ _ _ _ _ _ kind hkd (a.testBit j) (b.testBit j) (m.testBit j) (by omega) (bit_of k a j (by omega) (by omega) ha)
        (bit_of k b j (by omega) (by omega) hb) (bit_of k m j (by omega) (by omega) hm), ← sj, w64 _ (by omega), show (j : Int) + 1 = ((j + 1 : Nat) : Int) by omega]
      have ew : (((2 ^ j % 4294967296 : Nat) : Int) * 2) % 4294967296 = ((2 ^ (j + 1) % 4294967296 : Nat) : Int) := by
        rw [Nat.pow_succ]; omega
      have eo : (if z.testBit j = true then (((z % 2 ^ j : Nat) : Int) + ((2 ^ j % 4294967296 : Nat) : Int)) % 4294967296 else ((z % 2 ^ j : Nat) : Int)) = ((z % 2 ^ (j + 1) : Nat) : Int) := by
        cases hz' : z.testBit j
        · rw [hz', if_neg (by simp)] at st
          rw [if_neg (by simp), st]; omega
        · rw [hz', if_pos rfl] at st
          rw [if_pos rfl, st]
          rw [st] at l1
          clear ew ih
          generalize 2 ^ j = q at *
          generalize z % q = y at *
          omega
      rw [ew, eo]
      exact ih
    · obtain rfl : j = 32 := by omega
      rw [instarref01_Bits.l0, if_neg (by omega), Nat.mod_eq_of_lt (show z < 2 ^ 32 from hz)]

theorem bits_is (k a b m z kind : Nat) (hkd : kind ≤ 2) (ha : a < 4294967296) (hb : b < 4294967296) (hm : m < 4294967296) (hz : z < 4294967296)
    (hs : ∀ i, i < 32 → z.testBit i = setOf kind (a.testBit i) (b.testBit i) (m.testBit i)) (hk : 70 ≤ k) :
    instarref01_Bits.f k (a : Int) (b : Int) (m : Int) (kind : Int) = some (z : Int) := by
  have h := bits_loop a b m z kind hkd ha hb hm hz hs k 0 (by omega) (by omega)
  rw [Nat.pow_zero, Nat.mod_one] at h
  exact h
end WBits
open WBits

theorem WordBits : instarlaw01_WordBits.Pure := by
  intro a0 a1 a2 h0 h1 h2
  obtain ⟨a, rfl, ha⟩ : ∃ a : Nat, a0 = a ∧ a < 4294967296 := ⟨a0.toNat, by simp [Lit.wf, IntKind.min, IntKind.max, IntKind.bits, IntKind.signed] at h0; omega, by simp [Lit.wf, IntKind.min, IntKind.max, IntKind.bits, IntKind.signed] at h0; omega⟩
  obtain ⟨b, rfl, hb⟩ : ∃ a : Nat, a1 = a ∧ a < 4294967296 := ⟨a1.toNat, by simp [Lit.wf, IntKind.min, IntKind.max, IntKind.bits, IntKind.signed] at h1; omega, by simp [Lit.wf, IntKind.min, IntKind.max, IntKind.bits, IntKind.signed] at h1; omega⟩
  obtain ⟨m, rfl, hm⟩ : ∃ a : Nat, a2 = a ∧ a < 4294967296 := ⟨a2.toNat, by simp [Lit.wf, IntKind.min, IntKind.max, IntKind.bits, IntKind.signed] at h2; omega, by simp [Lit.wf, IntKind.min, IntKind.max, IntKind.bits, IntKind.signed] at h2; omega⟩
  obtain ⟨K, hK⟩ := awake
  refine ⟨K + 70, ?_⟩
  have b0 : instarref01_Bits.f (K + 70) (a : Int) (b : Int) 0 0 = some ((sub32 a b : Nat) : Int) :=
    bits_is (K + 70) a b 0 (sub32 a b) 0 (by omega) ha hb (by omega) (sub_lt _ _) (fun i hi => by rw [sub_bit _ _ _ hi]; rfl) (by omega)
  have b1 : instarref01_Bits.f (K + 70) (a : Int) (b : Int) (m : Int) 1 = some ((sub32 a (sub32 m b) : Nat) : Int) :=
    bits_is (K + 70) a b m (sub32 a (sub32 m b)) 1 (by omega) ha hb hm (sub_lt _ _) (fun i hi => by
      rw [sub_bit _ _ _ hi, sub_bit _ _ _ hi, setOf, if_neg (by decide), if_pos rfl, Bool.and_comm (m.testBit i)]) (by omega)
  have b2 : instarref01_Bits.f (K + 70) (a : Int) 0 (m : Int) 2 = some ((a ||| m : Nat) : Int) :=
    bits_is (K + 70) a 0 m (a ||| m) 2 (by omega) ha (by omega) hm (Nat.or_lt_two_pow (n := 32) ha hm) (fun i hi => by
      rw [Nat.testBit_or]; rfl) (by omega)
  rw [instarlaw01_WordBits.f, ones _ _ ha (by omega), rones _ _ ha (by omega), Option.bind_some, Option.bind_some, if_pos rfl,
    word_Within.f, Option.bind_some, b0, Option.bind_some, sub_nat, if_pos (by simp), word_Torn.f, Option.bind_some, b1, Option.bind_some,
    sub_nat, sub_nat, if_pos rfl, word_Raised.f, Option.bind_some, b2, Option.bind_some, or_nat _ _ ha hm, if_pos rfl, hK _ (by omega)]
  rfl

end Go.Proofs.Ytmbkkkpakjippaa.Pure
