/- Floats of 64 bits: what words that are numbers not below nought are worth, and how sums and quotients are rounded. -/
import Derived.Test.YtmlbioapefgioaaQ
namespace Go.Proofs.Ytmlbioapefgioaa.Pure
open Go Go.Proofs.Ytmlbioapefgioaa.Va
set_option linter.unusedVariables false
set_option linter.unusedSimpArgs false

theorem f64_eq : FloatKind.format .f64 = Ieee.double := rfl
theorem dbl_binade : Ieee.double.binade = 4503599627370496 := by decide
theorem dbl_inf : Ieee.double.infRung = 9218868437227405312 := by decide
theorem dbl_sign : Ieee.double.signWeight = 9223372036854775808 := by decide
theorem dbl_least : Ieee.double.leastPlace = -1074 := by decide
/-- A word's worth, in units of the least one. -/
def FVal (w v : Nat) : Prop := ∃ (m : Nat) (p : Int), Ieee.double.read w = .number false m p ∧ -1074 ≤ p ∧ v = m * 2 ^ (p + 1074).toNat
theorem FVal.zero : FVal 0 0 := ⟨0, -1074, by decide, by omega, by simp⟩

theorem cut_even {n drop : Nat} (hd : drop ≤ n.log2 + 2) : n / 2 ^ drop ≤ Ieee.Toward.even.cut false n drop ∧ Ieee.Toward.even.cut false n drop ≤ n / 2 ^ drop + 1 ∧ (n % 2 ^ drop = 0 → Ieee.Toward.even.cut false n drop = n / 2 ^ drop) ∧
    2 * (Ieee.Toward.even.cut false n drop * 2 ^ drop) ≤ 2 * n + 2 ^ drop ∧ 2 * n ≤ 2 * (Ieee.Toward.even.cut false n drop * 2 ^ drop) + 2 ^ drop := by
  have e : Ieee.Toward.even.cut false n drop = n / 2 ^ drop + (decide (2 ^ drop < 2 * (n % 2 ^ drop)) || (2 ^ drop == 2 * (n % 2 ^ drop) && n / 2 ^ drop % 2 == 1)).toNat := by
    unfold Ieee.Toward.cut
    simp only [Nat.min_eq_left hd, Nat.one_shiftLeft]
  rw [e]
  have hg : 0 < 2 ^ drop := Nat.two_pow_pos drop
  have h1 := Nat.div_add_mod n (2 ^ drop)
  have h2 := Nat.mod_lt n hg
  generalize 2 ^ drop = g at *
  generalize n / g = q at *
  generalize n % g = r at *
  cases hb : (decide (g < 2 * r) || (g == 2 * r && q % 2 == 1)) with
  | false =>
    have hr : 2 * r ≤ g := by
      simp only [Bool.or_eq_false_iff, decide_eq_false_iff_not] at hb
      omega
    simp only [Bool.toNat_false, Nat.add_zero, Nat.mul_comm q g]
    refine ⟨by omega, by omega, fun _ => by first | rfl | trivial, by omega, by omega⟩
  | true =>
    have hr : g ≤ 2 * r := by
      simp only [Bool.or_eq_true, decide_eq_true_eq, Bool.and_eq_true, beq_iff_eq] at hb
      omega
    simp only [Bool.toNat_true, Nat.add_mul, Nat.one_mul, Nat.mul_comm q g]
    refine ⟨by omega, by omega, fun h => by omega, by omega, by omega⟩
theorem cut_zero (n : Nat) : Ieee.Toward.even.cut false n 0 = n := by
  obtain ⟨_, _, h, _⟩ := cut_even (n := n) (drop := 0) (by omega)
  rw [h (by rw [Nat.pow_zero, Nat.mod_one]), Nat.pow_zero, Nat.div_one]

/-- A rung is read. -/
theorem read_rung {L k : Nat} (h1 : 4503599627370496 ≤ k) (h2 : k ≤ 9007199254740992) (hL : L ≤ 2044) : FVal (Ieee.double.word false (min (L * Ieee.double.binade + k) Ieee.double.infRung)) (k * 2 ^ L) := by
  rw [dbl_binade, dbl_inf, Nat.min_eq_left (by omega)]
  have hw : Ieee.double.word false (L * 4503599627370496 + k) = L * 4503599627370496 + k := rfl
  rw [hw]
  by_cases hk : k = 9007199254740992
  · subst hk
    refine ⟨4503599627370496, (L : Int) - 1073, ?_, by omega, ?_⟩
    · unfold Ieee.Format.read
      simp only [dbl_binade, dbl_inf, dbl_sign, dbl_least]
      rw [show (L * 4503599627370496 + 9007199254740992) / 9223372036854775808 % 2 = 0 by omega, show (L * 4503599627370496 + 9007199254740992) % 9223372036854775808 = (L + 2) * 4503599627370496 by omega, if_neg (by omega), if_pos (by omega)]
      rw [show (L + 2) * 4503599627370496 % 4503599627370496 = 0 by omega, show (L + 2) * 4503599627370496 / 4503599627370496 = L + 2 by omega]
      simp only [Nat.add_zero, show ((0 : Nat) == 1) = false by rfl]
      congr 1
      omega
    · rw [show ((L : Int) - 1073 + 1074).toNat = L + 1 by omega, Nat.pow_succ]
      omega
  · refine ⟨k, (L : Int) - 1074, ?_, by omega, ?_⟩
    · unfold Ieee.Format.read
      simp only [dbl_binade, dbl_inf, dbl_sign, dbl_least]
      rw [show (L * 4503599627370496 + k) / 9223372036854775808 % 2 = 0 by omega, show (L * 4503599627370496 + k) % 9223372036854775808 = L * 4503599627370496 + k by omega, if_neg (by omega), if_pos (by omega)]
      rw [show (L * 4503599627370496 + k) % 4503599627370496 = k - 4503599627370496 by omega, show (L * 4503599627370496 + k) / 4503599627370496 = L + 1 by omega]
      simp only [show ((0 : Nat) == 1) = false by rfl, show 4503599627370496 + (k - 4503599627370496) = k by omega]
      exact congrArg (Ieee.Datum.number false k) (by omega)
    · rw [show ((L : Int) - 1074 + 1074).toNat = L by omega]
theorem read_sub {k : Nat} (h : k < 4503599627370496) : FVal (Ieee.double.word false (min (0 * Ieee.double.binade + k) Ieee.double.infRung)) k := by
  rw [dbl_binade, dbl_inf, Nat.min_eq_left (by omega), Nat.zero_mul, Nat.zero_add]
  have hw : Ieee.double.word false k = k := rfl
  rw [hw]
  refine ⟨k, -1074, ?_, by omega, by simp⟩
  unfold Ieee.Format.read
  simp only [dbl_binade, dbl_inf, dbl_sign, dbl_least]
  rw [show k / 9223372036854775808 % 2 = 0 by omega, show k % 9223372036854775808 = k by omega, if_pos h]
  rfl

theorem nearest_fval {mag : Nat} {place : Int} (h0 : mag ≠ 0) (hp : -1074 ≤ place) (hb : place + (mag.log2 : Int) ≤ 1022) :
    ∃ k g, 0 < g ∧ FVal (Ieee.double.nearest false mag place) (k * g * 2 ^ (place + 1074).toNat) ∧ (mag.log2 ≤ 52 → g = 1 ∧ k = mag) ∧ (52 < mag.log2 → g = 2 ^ (mag.log2 - 52)) ∧
      mag / g ≤ k ∧ k ≤ mag / g + 1 ∧ (mag % g = 0 → k = mag / g) ∧ 2 * (k * g) ≤ 2 * mag + g ∧ 2 * mag ≤ 2 * (k * g) + g := by
  have hlo := Nat.log2_self_le h0
  have hhi := Nat.lt_log2_self (n := mag)
  unfold Ieee.Format.nearest
  rw [if_neg h0]
  simp only [dbl_least, show Ieee.double.fractionBits = 52 from rfl]
  generalize ha : mag.log2 = a at *
  by_cases h52 : a ≤ 52
  · refine ⟨mag, 1, by omega, ?_, fun _ => ⟨rfl, rfl⟩, fun h => by omega, by simp, by simp, fun _ => by simp, by omega, by omega⟩
    rw [Nat.mul_one]
    by_cases hs : place + (a : Int) - ((52 : Nat) : Int) ≥ -1074
    · rw [show max (place + (a : Int) - ((52 : Nat) : Int)) (-1074) = place + (a : Int) - 52 by omega, show (place + (a : Int) - 52 - place).toNat = 0 by omega, cut_zero, show (place - (place + (a : Int) - 52)).toNat = 52 - a by omega, Nat.shiftLeft_eq]
      have hk1 : 2 ^ a * 2 ^ (52 - a) ≤ mag * 2 ^ (52 - a) := Nat.mul_le_mul_right _ hlo
      have hk2 : mag * 2 ^ (52 - a) < 2 ^ (a + 1) * 2 ^ (52 - a) := Nat.mul_lt_mul_of_pos_right hhi (Nat.two_pow_pos _)
      rw [← Nat.pow_add, show a + (52 - a) = 52 by omega] at hk1
      rw [← Nat.pow_add, show a + 1 + (52 - a) = 53 by omega] at hk2
      have := read_rung (L := (place + (a : Int) - 52 - -1074).toNat) (k := mag * 2 ^ (52 - a)) hk1 (Nat.le_of_lt hk2) (by omega)
      rw [Nat.mul_assoc, ← Nat.pow_add, show 52 - a + (place + (a : Int) - 52 - -1074).toNat = (place + 1074).toNat by omega] at this
      exact this
    · rw [show max (place + (a : Int) - ((52 : Nat) : Int)) (-1074) = -1074 by omega, show ((-1074 : Int) - place).toNat = 0 by omega, cut_zero, show (place - (-1074 : Int)).toNat = (place + 1074).toNat by omega, Nat.shiftLeft_eq, show ((-1074 : Int) - -1074).toNat = 0 by omega]
      have hk2 : mag * 2 ^ (place + 1074).toNat < 2 ^ (a + 1) * 2 ^ (place + 1074).toNat := Nat.mul_lt_mul_of_pos_right hhi (Nat.two_pow_pos _)
      rw [← Nat.pow_add] at hk2
      have hk3 : 2 ^ (a + 1 + (place + 1074).toNat) ≤ 2 ^ 52 := Nat.pow_le_pow_right (by omega) (by omega)
      exact read_sub (Nat.lt_of_lt_of_le hk2 hk3)
  · have hcut := cut_even (n := mag) (drop := a - 52) (by rw [ha]; omega)
    rw [show max (place + (a : Int) - ((52 : Nat) : Int)) (-1074) = place + (a : Int) - 52 by omega, show (place - (place + (a : Int) - 52)).toNat = 0 by omega, Nat.shiftLeft_zero, show (place + (a : Int) - 52 - place).toNat = a - 52 by omega]
    have hg : 0 < 2 ^ (a - 52) := Nat.two_pow_pos _
    have e1 : 2 ^ a = 4503599627370496 * 2 ^ (a - 52) := by rw [show (4503599627370496 : Nat) = 2 ^ 52 by decide, ← Nat.pow_add]; congr 1; omega
    have e2 : 2 ^ (a + 1) = 9007199254740992 * 2 ^ (a - 52) := by rw [show (9007199254740992 : Nat) = 2 ^ 53 by decide, ← Nat.pow_add]; congr 1; omega
    rw [e1] at hlo
    rw [e2] at hhi
    have q1 : 4503599627370496 ≤ mag / 2 ^ (a - 52) := (Nat.le_div_iff_mul_le hg).2 hlo
    have q2 : mag / 2 ^ (a - 52) < 9007199254740992 := (Nat.div_lt_iff_lt_mul hg).2 hhi
    obtain ⟨c1, c2, c3, c4, c5⟩ := hcut
    generalize Ieee.Toward.even.cut false mag (a - 52) = k at *
    refine ⟨k, 2 ^ (a - 52), hg, ?_, fun h => absurd h h52, fun _ => rfl, c1, c2, c3, c4, c5⟩
    have := read_rung (L := (place + (a : Int) - 52 - -1074).toNat) (k := k) (by omega) (by omega) (by omega)
    rw [Nat.mul_assoc, ← Nat.pow_add, show a - 52 + (place + 1074).toNat = (place + (a : Int) - 52 - -1074).toNat by omega]
    exact this

/-! Which is greater. -/
theorem order_fval {x y vx vy : Nat} (hx : FVal x vx) (hy : FVal y vy) : (vx ≤ vy → (Ieee.Format.order (FloatKind.format .f64) x y == some .gt) = false) ∧ (vx < vy → (Ieee.Format.order (FloatKind.format .f64) x y == some .lt) = true) ∧ (vy < vx → (Ieee.Format.order (FloatKind.format .f64) x y == some .gt) = true) := by
  obtain ⟨m, p, e1, p1, rfl⟩ := hx
  obtain ⟨n, q, e2, q1, rfl⟩ := hy
  have e : Ieee.Format.order (FloatKind.format .f64) x y = some (compare ((m * 2 ^ (p - min p q).toNat : Nat) : Int) ((n * 2 ^ (q - min p q).toNat : Nat) : Int)) := by
    show (Ieee.double.read x).order (Ieee.double.read y) = _
    rw [e1, e2]
    simp only [Ieee.Datum.order, Ieee.signed, Bool.false_eq_true, if_false, Nat.shiftLeft_eq]
  rw [e]
  have f1 : m * 2 ^ (p + 1074).toNat = m * 2 ^ (p - min p q).toNat * 2 ^ (min p q + 1074).toNat := by rw [Nat.mul_assoc, ← Nat.pow_add]; congr 2; omega
  have f2 : n * 2 ^ (q + 1074).toNat = n * 2 ^ (q - min p q).toNat * 2 ^ (min p q + 1074).toNat := by rw [Nat.mul_assoc, ← Nat.pow_add]; congr 2; omega
  rw [f1, f2]
  have hP : 0 < 2 ^ (min p q + 1074).toNat := Nat.two_pow_pos _
  generalize m * 2 ^ (p - min p q).toNat = a
  generalize n * 2 ^ (q - min p q).toNat = b
  generalize 2 ^ (min p q + 1074).toNat = P at *
  refine ⟨fun h => ?_, fun h => ?_, fun h => ?_⟩
  · have : a ≤ b := Nat.le_of_mul_le_mul_right h hP
    by_cases hab : a = b
    · subst hab; simp
    · have hl : compare (a : Int) (b : Int) = .lt := by
        show compareOfLessAndEq (a : Int) (b : Int) = .lt
        unfold compareOfLessAndEq
        rw [if_pos (by omega)]
      rw [hl]; rfl
  · have : a < b := Nat.lt_of_mul_lt_mul_right h
    have hl : compare (a : Int) (b : Int) = .lt := by
      show compareOfLessAndEq (a : Int) (b : Int) = .lt
      unfold compareOfLessAndEq
      rw [if_pos (by omega)]
    rw [hl]; rfl
  · have : b < a := Nat.lt_of_mul_lt_mul_right h
    have hl : compare (a : Int) (b : Int) = .gt := by
      show compareOfLessAndEq (a : Int) (b : Int) = .gt
      unfold compareOfLessAndEq
      rw [if_neg (by omega), if_neg (by omega)]
    rw [hl]; rfl

/-! Sums. -/
theorem log2_bound {mag P B : Nat} (h0 : mag ≠ 0) (h : mag * 2 ^ P ≤ 2 ^ B) : mag.log2 + P ≤ B := by
  have h1 := Nat.mul_le_mul_right (2 ^ P) (Nat.log2_self_le h0)
  rw [← Nat.pow_add] at h1
  exact (Nat.pow_le_pow_iff_right (by omega)).1 (Nat.le_trans h1 h)
theorem fadd_fval {x y vx vy B : Nat} (hx : FVal x vx) (hy : FVal y vy) (hB : B ≤ 1080) (hb : vx + vy ≤ 2 ^ B) : ∃ z v, Ieee.Format.add (FloatKind.format .f64) x y = some z ∧ FVal z v ∧ 9007199254740992 * v ≤ 9007199254740992 * (vx + vy) + (vx + vy) ∧ 9007199254740992 * (vx + vy) ≤ 9007199254740992 * v + (vx + vy) := by
  obtain ⟨m, p, e1, p1, rfl⟩ := hx
  obtain ⟨n, q, e2, q1, rfl⟩ := hy
  have f1 : m * 2 ^ (p + 1074).toNat = m * 2 ^ (p - min p q).toNat * 2 ^ (min p q + 1074).toNat := by rw [Nat.mul_assoc, ← Nat.pow_add]; congr 2; omega
  have f2 : n * 2 ^ (q + 1074).toNat = n * 2 ^ (q - min p q).toNat * 2 ^ (min p q + 1074).toNat := by rw [Nat.mul_assoc, ← Nat.pow_add]; congr 2; omega
  have e : Ieee.Format.add (FloatKind.format .f64) x y = some (Ieee.double.nearest false (m * 2 ^ (p - min p q).toNat + n * 2 ^ (q - min p q).toNat) (min p q)) := by
    show ((Ieee.double.read x).sum (Ieee.double.read y)).map Ieee.double.write = _
    rw [e1, e2]
    simp only [Ieee.Datum.sum, Ieee.signed, Bool.false_eq_true, if_false, Nat.shiftLeft_eq, Option.map_some, Bool.and_self]
    have : ((m * 2 ^ (p - min p q).toNat : Nat) : Int) + ((n * 2 ^ (q - min p q).toNat : Nat) : Int) = ((m * 2 ^ (p - min p q).toNat + n * 2 ^ (q - min p q).toNat : Nat) : Int) := by omega
    rw [this]
    have hd : (if ((m * 2 ^ (p - min p q).toNat + n * 2 ^ (q - min p q).toNat : Nat) : Int) = 0 then false else decide (((m * 2 ^ (p - min p q).toNat + n * 2 ^ (q - min p q).toNat : Nat) : Int) < 0)) = false := by
      split
      · rfl
      · exact decide_eq_false (by omega)
    rw [hd, Int.natAbs_natCast]
    rfl
  rw [f1, f2, ← Nat.add_mul] at hb ⊢
  rw [e]
  generalize m * 2 ^ (p - min p q).toNat + n * 2 ^ (q - min p q).toNat = T at *
  by_cases h0 : T = 0
  · subst h0
    exact ⟨_, 0, rfl, by
      have : Ieee.double.nearest false 0 (min p q) = 0 := by unfold Ieee.Format.nearest; rw [if_pos rfl]; rfl
      rw [this]; exact FVal.zero, by omega, by omega⟩
  have hl := log2_bound h0 hb
  obtain ⟨k, g, hg, hv, a1, a2, _, _, _, a6, a7⟩ := nearest_fval (mag := T) (place := min p q) h0 (by omega) (by omega)
  refine ⟨_, _, rfl, hv, ?_⟩
  have hgT : 9007199254740992 * (k * g) ≤ 9007199254740992 * T + T ∧ 9007199254740992 * T ≤ 9007199254740992 * (k * g) + T := by
    by_cases h52 : T.log2 ≤ 52
    · obtain ⟨rfl, rfl⟩ := a1 h52
      omega
    · have hlo := Nat.log2_self_le h0
      have e3 : 2 ^ T.log2 = 4503599627370496 * 2 ^ (T.log2 - 52) := by rw [show (4503599627370496 : Nat) = 2 ^ 52 by decide, ← Nat.pow_add]; congr 1; omega
      rw [e3, ← a2 (by omega)] at hlo
      omega
  generalize 2 ^ (min p q + 1074).toNat = P
  have b1 := Nat.mul_le_mul_right P hgT.1
  have b2 := Nat.mul_le_mul_right P hgT.2
  rw [Nat.add_mul, Nat.mul_assoc 9007199254740992 (k * g) P, Nat.mul_assoc 9007199254740992 T P] at b1 b2
  exact ⟨b1, b2⟩

/-! Whole numbers. -/
theorem fint_fval {c : Nat} (h0 : c ≠ 0) (hc : c.log2 ≤ 52) : Ieee.double.read (FloatKind.nearest .f64 (c : Int)) = .number false (c * 2 ^ (52 - c.log2)) ((c.log2 : Int) - 52) := by
  have hlo := Nat.log2_self_le h0
  have hhi := Nat.lt_log2_self (n := c)
  have e : FloatKind.nearest .f64 (c : Int) = Ieee.double.nearest false c 0 := by
    show Ieee.double.nearest (decide ((c : Int) < 0)) (c : Int).natAbs 0 = _
    rw [decide_eq_false (by omega), Int.natAbs_natCast]
  rw [e]
  unfold Ieee.Format.nearest
  rw [if_neg h0]
  simp only [dbl_least, show Ieee.double.fractionBits = 52 from rfl]
  generalize c.log2 = a at *
  rw [show max ((0 : Int) + (a : Int) - ((52 : Nat) : Int)) (-1074) = (a : Int) - 52 by omega, show ((a : Int) - 52 - 0).toNat = 0 by omega, cut_zero, show (0 - ((a : Int) - 52)).toNat = 52 - a by omega, Nat.shiftLeft_eq]
  have hk1 : 2 ^ a * 2 ^ (52 - a) ≤ c * 2 ^ (52 - a) := Nat.mul_le_mul_right _ hlo
  have hk2 : c * 2 ^ (52 - a) < 2 ^ (a + 1) * 2 ^ (52 - a) := Nat.mul_lt_mul_of_pos_right hhi (Nat.two_pow_pos _)
  rw [← Nat.pow_add, show a + (52 - a) = 52 by omega] at hk1
  rw [← Nat.pow_add, show a + 1 + (52 - a) = 53 by omega] at hk2
  have hk1 : 4503599627370496 ≤ c * 2 ^ (52 - a) := hk1
  have hk2 : c * 2 ^ (52 - a) < 9007199254740992 := hk2
  generalize c * 2 ^ (52 - a) = k at *
  rw [dbl_binade, dbl_inf, Nat.min_eq_left (by omega)]
  have hw : ∀ r, Ieee.double.word false r = r := fun _ => rfl
  rw [hw]
  unfold Ieee.Format.read
  simp only [dbl_binade, dbl_inf, dbl_sign, dbl_least]
  have eL : ((a : Int) - 52 - -1074).toNat = a + 1022 := by omega
  rw [eL, show ((a + 1022) * 4503599627370496 + k) / 9223372036854775808 % 2 = 0 by omega, show ((a + 1022) * 4503599627370496 + k) % 9223372036854775808 = (a + 1022) * 4503599627370496 + k by omega, if_neg (by omega), if_pos (by omega)]
  rw [show ((a + 1022) * 4503599627370496 + k) % 4503599627370496 = k - 4503599627370496 by omega, show ((a + 1022) * 4503599627370496 + k) / 4503599627370496 = a + 1023 by omega]
  simp only [show ((0 : Nat) == 1) = false by rfl, show 4503599627370496 + (k - 4503599627370496) = k by omega]
  exact congrArg (Ieee.Datum.number false k) (by omega)

/-- What a one is worth. -/
def U64 : Nat := 2 ^ 1074
theorem U64_def : U64 = 2 ^ 1074 := by unfold U64; exact Eq.refl _
theorem U64_pow {a b : Nat} (h : a + b = 1074) : U64 = 2 ^ a * 2 ^ b := U64_def.trans (by rw [← h, Nat.pow_add])
theorem mul_u (u S T : Nat) : u * (2 * S * T) = 2 * (u * S) * T := by rw [Nat.mul_assoc 2 S T, Nat.mul_left_comm u 2 (S * T), ← Nat.mul_assoc u S T, ← Nat.mul_assoc 2 (u * S) T]
theorem write_num (m : Nat) (p : Int) : Ieee.double.write (.number (false ^^ false) m p) = Ieee.double.nearest false m p := rfl
theorem fint_zero : Ieee.double.read (FloatKind.nearest .f64 ((0 : Nat) : Int)) = .number false 0 (-1074) := by decide
theorem fint_val {c : Nat} (hc : c.log2 ≤ 52) : FVal (FloatKind.nearest .f64 (c : Int)) (c * U64) := by
  by_cases h0 : c = 0
  · subst h0
    exact ⟨0, -1074, fint_zero, by omega, by rw [Nat.zero_mul, Nat.zero_mul]⟩
  · refine ⟨_, _, fint_fval h0 hc, by omega, ?_⟩
    rw [Nat.mul_assoc, ← Nat.pow_add, U64_def]
    congr 2
    omega

/-! Quotients of small whole numbers. -/
theorem log_small {c : Nat} (h0 : c ≠ 0) (hc : c ≤ 1000) : c.log2 ≤ 9 := by
  have := Nat.log2_self_le h0
  have h1 : 2 ^ c.log2 < 2 ^ 10 := Nat.lt_of_le_of_lt this (by omega)
  have := (Nat.pow_lt_pow_iff_right (by omega)).1 h1
  omega
theorem fquo_def (c b : Nat) : Ieee.Format.div (FloatKind.format .f64) (FloatKind.nearest .f64 (c : Int)) (FloatKind.nearest .f64 (b : Int)) = ((Ieee.double.read (FloatKind.nearest .f64 (c : Int))).quotient 54 (Ieee.double.read (FloatKind.nearest .f64 (b : Int)))).map Ieee.double.write := rfl
theorem fquo_zero {b : Nat} (b0 : b ≠ 0) (hb : b.log2 ≤ 52) : Ieee.Format.div (FloatKind.format .f64) (FloatKind.nearest .f64 ((0 : Nat) : Int)) (FloatKind.nearest .f64 (b : Int)) = some 0 := by
  have hn0 : b * 2 ^ (52 - b.log2) ≠ 0 := Nat.mul_ne_zero b0 (Nat.ne_of_gt (Nat.two_pow_pos _))
  rw [fquo_def, fint_zero, fint_fval b0 hb]
  simp only [Ieee.Datum.quotient, if_neg hn0, Option.map_some]
  have : ∀ p : Int, Ieee.double.write (.number (false ^^ false) (2 * (0 <<< (54 + (b * 2 ^ (52 - b.log2)).log2 - Nat.log2 0) / (b * 2 ^ (52 - b.log2))) + (0 <<< (54 + (b * 2 ^ (52 - b.log2)).log2 - Nat.log2 0) % (b * 2 ^ (52 - b.log2)) != 0).toNat) p) = 0 := fun p => by
    rw [Nat.zero_shiftLeft, Nat.zero_div, Nat.zero_mod]
    show Ieee.double.nearest false 0 p = 0
    unfold Ieee.Format.nearest
    rw [if_pos rfl]
    rfl
  rw [this]
/-- A mantissa has 53 digits. -/
theorem log53 {x : Nat} (x0 : x ≠ 0) (hx : x.log2 ≤ 52) : (x * 2 ^ (52 - x.log2)).log2 = 52 := by
  have h1 := Nat.mul_le_mul_right (2 ^ (52 - x.log2)) (Nat.log2_self_le x0)
  have h2 := Nat.mul_lt_mul_of_pos_right (Nat.lt_log2_self (n := x)) (Nat.two_pow_pos (52 - x.log2))
  rw [← Nat.pow_add, show x.log2 + (52 - x.log2) = 52 by omega] at h1
  rw [← Nat.pow_add, show x.log2 + 1 + (52 - x.log2) = 53 by omega] at h2
  have h0 : x * 2 ^ (52 - x.log2) ≠ 0 := Nat.mul_ne_zero x0 (Nat.ne_of_gt (Nat.two_pow_pos _))
  have h3 : (x * 2 ^ (52 - x.log2)).log2 < 53 := (Nat.log2_lt h0).2 h2
  have h4 : ¬ (x * 2 ^ (52 - x.log2)).log2 < 52 := fun h => by
    have := (Nat.log2_lt h0).1 h
    omega
  omega
theorem fquo_er {c b : Nat} (c0 : c ≠ 0) (b0 : b ≠ 0) (lc : c.log2 ≤ 9) (lb : b.log2 ≤ 9) {S : Nat} (hS : S = 2 ^ (54 + b.log2 - c.log2)) :
    Ieee.Format.div (FloatKind.format .f64) (FloatKind.nearest .f64 (c : Int)) (FloatKind.nearest .f64 (b : Int)) = some (Ieee.double.nearest false (2 * (c * S / b) + (c * S % b != 0).toNat) ((c.log2 : Int) - (b.log2 : Int) - 55)) := by
  have hn0 : b * 2 ^ (52 - b.log2) ≠ 0 := Nat.mul_ne_zero b0 (Nat.ne_of_gt (Nat.two_pow_pos _))
  have hD : (c * 2 ^ (52 - c.log2)) <<< 54 = c * S * 2 ^ (52 - b.log2) := by
    rw [Nat.shiftLeft_eq, hS, Nat.mul_assoc, Nat.mul_assoc, ← Nat.pow_add, ← Nat.pow_add]
    congr 2
    omega
  have hpp : 0 < 2 ^ (52 - b.log2) := Nat.two_pow_pos _
  have hmod : (c * S * 2 ^ (52 - b.log2) % (b * 2 ^ (52 - b.log2)) != 0) = (c * S % b != 0) := by
    rw [Nat.mul_mod_mul_right]
    by_cases hz : c * S % b = 0
    · rw [hz]; simp
    · have : c * S % b * 2 ^ (52 - b.log2) ≠ 0 := Nat.mul_ne_zero hz (Nat.ne_of_gt hpp)
      rw [bne_iff_ne.2 this, bne_iff_ne.2 hz]
  rw [fquo_def, fint_fval c0 (by omega), fint_fval b0 (by omega)]
  simp only [Ieee.Datum.quotient, if_neg hn0, Option.map_some, log53 b0 (show b.log2 ≤ 52 by omega), log53 c0 (show c.log2 ≤ 52 by omega), show 54 + 52 - 52 = 54 from rfl]
  rw [hD, hmod, Nat.mul_div_mul_right _ _ hpp, write_num]
  exact congrArg (fun p => some (Ieee.double.nearest false _ p)) (by omega)
/-- How great the quotient is. -/
theorem fquo_size {c b : Nat} (c0 : c ≠ 0) (b0 : b ≠ 0) (lc : c.log2 ≤ 9) (lb : b.log2 ≤ 9) {S : Nat} (hS : S = 2 ^ (54 + b.log2 - c.log2)) : 9007199254740992 * b ≤ c * S ∧ c * S < 36028797018963968 * b := by
  have bhi := Nat.lt_log2_self (n := b)
  have blo := Nat.log2_self_le b0
  have chi := Nat.lt_log2_self (n := c)
  have clo := Nat.log2_self_le c0
  have hSp : 0 < S := by rw [hS]; exact Nat.two_pow_pos _
  constructor
  · have h1 : 2 ^ c.log2 * S ≤ c * S := Nat.mul_le_mul_right _ clo
    rw [hS, ← Nat.pow_add, show c.log2 + (54 + b.log2 - c.log2) = 53 + (b.log2 + 1) by omega, Nat.pow_add] at h1
    rw [hS]
    have h2 : 2 ^ 53 * b ≤ 2 ^ 53 * 2 ^ (b.log2 + 1) := Nat.mul_le_mul_left _ (by omega)
    exact Nat.le_trans h2 h1
  · have h1 : c * S < 2 ^ (c.log2 + 1) * S := Nat.mul_lt_mul_of_pos_right chi hSp
    rw [hS, ← Nat.pow_add, show c.log2 + 1 + (54 + b.log2 - c.log2) = 55 + b.log2 by omega, Nat.pow_add] at h1
    rw [hS]
    have h2 : 2 ^ 55 * 2 ^ b.log2 ≤ 2 ^ 55 * b := Nat.mul_le_mul_left _ blo
    exact Nat.lt_of_lt_of_le h1 h2
theorem fquo_log {mag Q s : Nat} (hm : mag = 2 * Q + s) (hs : s ≤ 1) (h1 : 9007199254740992 ≤ Q) (h2 : Q < 36028797018963968) : mag ≠ 0 ∧ (mag.log2 = 54 ∨ mag.log2 = 55) := by
  have h0 : mag ≠ 0 := by omega
  have hl1 : mag.log2 < 56 := (Nat.log2_lt h0).2 (by rw [show (2 : Nat) ^ 56 = 72057594037927936 by decide]; omega)
  have hl2 : ¬ mag.log2 < 54 := fun h => by
    have := (Nat.log2_lt h0).1 h
    rw [show (2 : Nat) ^ 54 = 18014398509481984 by decide] at this
    omega
  exact ⟨h0, by omega⟩
theorem fquo_core {c b : Nat} (c0 : c ≠ 0) (b0 : b ≠ 0) (lc : c.log2 ≤ 9) (lb : b.log2 ≤ 9) : ∃ S T Z k g r, Ieee.Format.div (FloatKind.format .f64) (FloatKind.nearest .f64 (c : Int)) (FloatKind.nearest .f64 (b : Int)) = some r ∧ FVal r (k * g * T) ∧ U64 = 2 * S * T ∧ S = 8 * Z ∧ (g = 4 ∨ g = 8) ∧ 9007199254740992 * b ≤ c * S ∧
    (2 * (c * S / b) + (c * S % b != 0).toNat) / g ≤ k ∧ k ≤ (2 * (c * S / b) + (c * S % b != 0).toNat) / g + 1 ∧ ((2 * (c * S / b) + (c * S % b != 0).toNat) % g = 0 → k = (2 * (c * S / b) + (c * S % b != 0).toNat) / g) ∧
    2 * (k * g) ≤ 2 * (2 * (c * S / b) + (c * S % b != 0).toNat) + g ∧ 2 * (2 * (c * S / b) + (c * S % b != 0).toNat) ≤ 2 * (k * g) + g := by
  obtain ⟨S, hS⟩ : ∃ S, S = 2 ^ (54 + b.log2 - c.log2) := ⟨_, rfl⟩
  have er := fquo_er c0 b0 lc lb hS
  obtain ⟨s1, s2⟩ := fquo_size c0 b0 lc lb hS
  have hbp : 0 < b := by omega
  have hQ1 : 9007199254740992 ≤ c * S / b := (Nat.le_div_iff_mul_le hbp).2 s1
  have hQ2 : c * S / b < 36028797018963968 := (Nat.div_lt_iff_lt_mul hbp).2 s2
  have hst : (c * S % b != 0).toNat ≤ 1 := by cases (c * S % b != 0) <;> simp
  obtain ⟨hm0, hlog⟩ := fquo_log rfl hst hQ1 hQ2
  have hZ : S = 8 * 2 ^ (51 + b.log2 - c.log2) := by
    rw [hS, show (8 : Nat) = 2 ^ 3 by decide, ← Nat.pow_add]
    congr 1
    omega
  have hU : U64 = 2 * S * 2 ^ ((c.log2 : Int) - (b.log2 : Int) - 55 + 1074).toNat := by
    have e2 : 2 * S = 2 ^ (54 + b.log2 - c.log2 + 1) := by rw [hS, Nat.pow_succ, Nat.mul_comm]
    exact (U64_pow (a := 54 + b.log2 - c.log2 + 1) (b := ((c.log2 : Int) - (b.log2 : Int) - 55 + 1074).toNat) (by omega)).trans (congrArg (· * _) e2.symm)
  obtain ⟨k, g, hg, hv, _, a2, a3, a4, a5, a6, a7⟩ := nearest_fval (mag := 2 * (c * S / b) + (c * S % b != 0).toNat) (place := (c.log2 : Int) - (b.log2 : Int) - 55) hm0 (by omega) (by omega)
  refine ⟨S, _, _, k, g, _, er, hv, hU, hZ, ?_, s1, a3, a4, a5, a6, a7⟩
  rw [a2 (by omega)]
  rcases hlog with h | h <;> rw [h]
  · exact Or.inl rfl
  · exact Or.inr rfl
theorem mult_of {l Z S g : Nat} (hS : S = 8 * Z) (hg : g = 4 ∨ g = 8) : ∃ y, 2 * (l * S) = y * g := by
  rcases hg with e | e
  · exact ⟨4 * (l * Z), by rw [hS, e, Nat.mul_left_comm l 8 Z]; omega⟩
  · exact ⟨2 * (l * Z), by rw [hS, e, Nat.mul_left_comm l 8 Z]; omega⟩
theorem fquo_low {l mag S Z k g : Nat} (hS : S = 8 * Z) (hg : g = 4 ∨ g = 8) (a3 : mag / g ≤ k) (h : 2 * (l * S) ≤ mag) : 2 * (l * S) ≤ k * g := by
  obtain ⟨y, hy⟩ := mult_of (l := l) hS hg
  rw [hy] at h ⊢
  have h6 : y ≤ mag / g := (Nat.le_div_iff_mul_le (by omega)).2 h
  exact Nat.mul_le_mul_right _ (by omega)
theorem fquo_high {u mag S Z k g : Nat} (hS : S = 8 * Z) (hg : g = 4 ∨ g = 8) (a4 : k ≤ mag / g + 1) (a5 : mag % g = 0 → k = mag / g) (h : mag ≤ 2 * (u * S)) : k * g ≤ 2 * (u * S) := by
  obtain ⟨y, hy⟩ := mult_of (l := u) hS hg
  rw [hy] at h ⊢
  have h6 : mag / g ≤ y := Nat.div_le_of_le_mul (by rw [Nat.mul_comm g]; exact h)
  by_cases hz : mag % g = 0
  · rw [a5 hz]
    exact Nat.mul_le_mul_right _ h6
  · have h7 : mag / g < y := by
      refine Nat.lt_of_le_of_ne h6 fun e => ?_
      have := Nat.div_add_mod mag g
      rw [e, Nat.mul_comm g] at this
      omega
    exact Nat.mul_le_mul_right _ (by omega)
theorem fquo_mag {x b : Nat} (hb : 0 < b) : b * (2 * (x / b) + (x % b != 0).toNat) ≤ 2 * x + b ∧ 2 * x ≤ b * (2 * (x / b) + (x % b != 0).toNat) + b := by
  have hq := Nat.div_add_mod x b
  rw [Nat.mul_add, Nat.mul_left_comm b 2]
  by_cases hz : x % b = 0
  · rw [hz] at hq ⊢
    simp only [bne_self_eq_false, Bool.toNat_false, Nat.mul_zero, Nat.add_zero] at hq ⊢
    omega
  · have := Nat.mod_lt x hb
    rw [bne_iff_ne.2 hz]
    simp only [Bool.toNat_true, Nat.mul_one]
    omega
theorem fquo_off {A B G b X : Nat} (h1 : B ≤ 2 * X + b) (h2 : 2 * X ≤ B + b) (h3 : 2 * A ≤ 2 * B + G) (h4 : 2 * B ≤ 2 * A + G) (h5 : G ≤ 8 * b) (h6 : 9007199254740992 * b ≤ X) : 1125899906842624 * A ≤ 1125899906842624 * (2 * X) + 2 * X ∧ 1125899906842624 * (2 * X) ≤ 1125899906842624 * A + 2 * X := by
  omega
theorem fquo_fval {c b : Nat} (hc : c ≤ 1000) (hb : 1 ≤ b) (hb' : b ≤ 1000) : ∃ r v, Ieee.Format.div (FloatKind.format .f64) (FloatKind.nearest .f64 (c : Int)) (FloatKind.nearest .f64 (b : Int)) = some r ∧ FVal r v ∧
    (∀ l, l * b ≤ c → l * U64 ≤ v) ∧ (∀ u, c ≤ u * b → v ≤ u * U64) ∧ 1125899906842624 * (b * v) ≤ 1125899906842624 * (c * U64) + c * U64 ∧ 1125899906842624 * (c * U64) ≤ 1125899906842624 * (b * v) + c * U64 := by
  have b0 : b ≠ 0 := by omega
  have lb := log_small b0 hb'
  by_cases c0 : c = 0
  · subst c0
    refine ⟨0, 0, fquo_zero b0 (by omega), FVal.zero, fun l h => ?_, fun u _ => Nat.zero_le _, by simp, by simp⟩
    have : l = 0 := by
      rcases Nat.mul_eq_zero.1 (Nat.le_zero.1 h) with h | h
      · exact h
      · omega
    subst this
    simp
  obtain ⟨S, T, Z, k, g, r, er, hv, hU, hZ, hg, hbig, a3, a4, a5, a6, a7⟩ := fquo_core c0 b0 (log_small c0 hc) lb
  refine ⟨r, k * g * T, er, hv, fun l hl => ?_, fun u hu => ?_, ?_⟩
  · have h1 : l * S * b ≤ c * S := by
      rw [Nat.mul_right_comm]
      exact Nat.mul_le_mul_right _ hl
    have h2 : l * S ≤ c * S / b := (Nat.le_div_iff_mul_le hb).2 h1
    rw [hU, mul_u]
    exact Nat.mul_le_mul_right _ (fquo_low hZ hg a3 (by omega))
  · have h1 : c * S ≤ u * S * b := by
      rw [Nat.mul_right_comm]
      exact Nat.mul_le_mul_right _ hu
    have h2 : 2 * (c * S / b) + (c * S % b != 0).toNat ≤ 2 * (u * S) := by
      have h3 : c * S / b ≤ u * S := Nat.div_le_of_le_mul (by rw [Nat.mul_comm b]; exact h1)
      by_cases hz : c * S % b = 0
      · rw [hz]
        simp only [bne_self_eq_false, Bool.toNat_false]
        omega
      · have h4 : c * S / b < u * S := by
          refine Nat.lt_of_le_of_ne h3 fun e => ?_
          have hq := Nat.div_add_mod (c * S) b
          rw [e, Nat.mul_comm b] at hq
          omega
        have hst : (c * S % b != 0).toNat ≤ 1 := by cases (c * S % b != 0) <;> simp
        omega
    rw [hU, mul_u]
    exact Nat.mul_le_mul_right _ (fquo_high hZ hg a4 a5 h2)
  · obtain ⟨e1, e1'⟩ := fquo_mag (x := c * S) (b := b) hb
    generalize 2 * (c * S / b) + (c * S % b != 0).toNat = M at *
    have h1 := Nat.mul_le_mul_left b a6
    have h2 := Nat.mul_le_mul_left b a7
    rw [Nat.mul_add, Nat.mul_left_comm b 2 (k * g), Nat.mul_left_comm b 2 M] at h1 h2
    have e3 : b * g ≤ 8 * b := by
      rcases hg with e | e <;> rw [e] <;> omega
    obtain ⟨e4, e5⟩ := fquo_off e1 e1' h1 h2 e3 hbig
    have h1 := Nat.mul_le_mul_right T e4
    have h2 := Nat.mul_le_mul_right T e5
    have f1 : c * U64 = 2 * (c * S) * T := by rw [hU, mul_u]
    have f2 : b * (k * g * T) = b * (k * g) * T := by rw [Nat.mul_assoc b (k * g) T]
    rw [f1, f2]
    rw [Nat.add_mul, Nat.mul_assoc 1125899906842624 (b * (k * g)) T, Nat.mul_assoc 1125899906842624 (2 * (c * S)) T] at h1 h2
    exact ⟨h1, h2⟩

theorem pw {a b c : Nat} (h : a + b = c) : 2 ^ a * 2 ^ b = 2 ^ c := by rw [← h, Nat.pow_add]
theorem U64_64 {c : Nat} (h : 6 + 1074 = c) : 64 * U64 = 2 ^ c := by
  obtain ⟨k, hk⟩ : ∃ k : Nat, 1074 = k := ⟨_, rfl⟩
  have u : U64 = 2 ^ k := U64_def.trans (by rw [hk])
  have e : 2 ^ 6 * 2 ^ k = 2 ^ c := pw (by omega)
  rw [u, ← e]
theorem fadd_u {U x y vx vy : Nat} (hU : U = U64) (hx : FVal x vx) (hy : FVal y vy) (hb : vx + vy ≤ 64 * U) : ∃ z v, Ieee.Format.add (FloatKind.format .f64) x y = some z ∧ FVal z v ∧ 9007199254740992 * v ≤ 9007199254740992 * (vx + vy) + (vx + vy) ∧ 9007199254740992 * (vx + vy) ≤ 9007199254740992 * v + (vx + vy) := by
  obtain ⟨c, hc⟩ : ∃ c, 6 + 1074 = c := ⟨_, rfl⟩
  refine fadd_fval (B := c) hx hy (by omega) ?_
  rw [← U64_64 hc, ← hU]
  exact hb
theorem U64_q {U : Nat} (hU : U = U64) : ∃ Q, 0 < Q ∧ U = 9007199254740992 * Q ∧ FVal 4607173411600762667 (8998192055486251 * Q) ∧ FVal 4607186922399644778 (9016206453995732 * Q) := by
  obtain ⟨q, hq⟩ : ∃ q : Nat, q = 1021 := ⟨_, rfl⟩
  refine ⟨2 ^ q, Nat.two_pow_pos _, ?_, ⟨8998192055486251, -53, by decide +kernel, by omega, ?_⟩, ⟨4508103226997866, -52, by decide +kernel, by omega, ?_⟩⟩
  · rw [hU]
    exact U64_pow (a := 53) (b := q) (by omega)
  · rw [show ((-53 : Int) + 1074).toNat = q by omega]
  · rw [show ((-52 : Int) + 1074).toNat = 1 + q by omega, Nat.pow_add]
    generalize 2 ^ q = Q
    omega

end Go.Proofs.Ytmlbioapefgioaa.Pure
