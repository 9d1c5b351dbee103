/- Bits that went up in sealed words: they are told, unless none did. -/
import Derived.Test.YtpidbpmkogbdeaaQX
import Derived.Test.YtpidbpmkogbdeaaQZeros
namespace Go.Proofs.Ytpidbpmkogbdeaa.Pure
open Go Go.Proofs.Ytpidbpmkogbdeaa.Va
set_option linter.unusedVariables false
set_option linter.unusedSimpArgs false

theorem pop_or : ∀ (k x y : Nat), x < 2 ^ k → y < 2 ^ k → pop x ≤ pop (x ||| y) ∧ (pop x = pop (x ||| y) → x ||| y = x)
  | 0, x, y, hx, hy => by
    have h1 : x = 0 := by simpa using hx
    have h2 : y = 0 := by simpa using hy
    subst h1; subst h2
    simp
  | k + 1, x, y, hx, hy => by
    rw [Nat.pow_succ] at hx hy
    obtain ⟨i1, i2⟩ := pop_or k (x / 2) (y / 2) (by omega) (by omega)
    have hm : (x ||| y) % 2 = (x % 2) ||| (y % 2) := by
      have := Nat.or_mod_two_pow (a := x) (b := y) (n := 1)
      simpa using this
    have hd : (x ||| y) / 2 = x / 2 ||| y / 2 := by
      have := Nat.or_div_two_pow (a := x) (b := y) (n := 1)
      simpa using this
    have e1 := pop_step x
    have e2 := pop_step (x ||| y)
    rw [hm, hd] at e2
    have hc : x % 2 ≤ (x % 2 ||| y % 2) ∧ (x % 2 ||| y % 2) ≤ 1 := by
      rcases Nat.mod_two_eq_zero_or_one x with h | h <;> rcases Nat.mod_two_eq_zero_or_one y with h' | h' <;> rw [h, h'] <;> decide
    refine ⟨by omega, fun h => ?_⟩
    have e3 : pop (x / 2) = pop (x / 2 ||| y / 2) := by omega
    have e4 := i2 e3
    have e5 := Nat.div_add_mod (x ||| y) 2
    have e6 := Nat.div_add_mod x 2
    rw [hm, hd, e4] at e5
    omega

theorem zsum_cmp : ∀ (A B : List Int), A.length = B.length → (∀ (j : Nat) (a b : Int), A[j]? = some a → B[j]? = some b → zer a ≤ zer b ∧ (zer a = zer b → a = b)) → zsum A ≤ zsum B ∧ (zsum A = zsum B → A = B)
  | [], [], _, _ => ⟨Nat.le_refl _, fun _ => rfl⟩
  | a :: A, b :: B, hl, h => by
    obtain ⟨h1, h2⟩ := h 0 a b rfl rfl
    obtain ⟨i1, i2⟩ := zsum_cmp A B (by simpa using hl) fun j x y hx hy => h (j + 1) x y (by simpa using hx) (by simpa using hy)
    have ea : zsum (a :: A) = zer a + zsum A := by simp [zsum]
    have eb : zsum (b :: B) = zer b + zsum B := by simp [zsum]
    refine ⟨by omega, fun e => ?_⟩
    rw [h2 (by omega), i2 (by omega)]
  | [], _ :: _, hl, _ => by simp at hl
  | _ :: _, [], hl, _ => by simp at hl

theorem bOr_range {a b : Int} (ha : 0 ≤ a ∧ a < 4294967296) (hb : 0 ≤ b ∧ b < 4294967296) : (0 ≤ bOr .u32 a b ∧ bOr .u32 a b < 4294967296) ∧ a ≤ bOr .u32 a b ∧ zer (bOr .u32 a b) ≤ zer a ∧ (zer (bOr .u32 a b) = zer a → bOr .u32 a b = a) := by
  obtain ⟨x, rfl⟩ := Int.eq_ofNat_of_zero_le ha.1
  obtain ⟨y, rfl⟩ := Int.eq_ofNat_of_zero_le hb.1
  rw [bOr_nat x y (by omega) (by omega)]
  have h1 : x ||| y < 2 ^ 32 := Nat.or_lt_two_pow (by omega) (by omega)
  have h2 : x ≤ x ||| y := Nat.left_le_or
  obtain ⟨p1, p2⟩ := pop_or 32 x y (by omega) (by omega)
  have q1 := pop_le 32 (x ||| y) h1
  unfold zer
  rw [Int.toNat_natCast, Int.toNat_natCast]
  refine ⟨by omega, by omega, by omega, fun e => ?_⟩
  rw [p2 (by omega)]

/-- One word is the other with bits raised. -/
def Up (a b : Int) : Prop := (0 ≤ b ∧ b < 4294967296) ∧ a ≤ b ∧ zer b ≤ zer a ∧ (zer b = zer a → b = a)
theorem Up.refl {a : Int} (h : 0 ≤ a ∧ a < 4294967296) : Up a a := ⟨h, Int.le_refl _, Nat.le_refl _, fun _ => rfl⟩
theorem Up.or {a b : Int} (ha : 0 ≤ a ∧ a < 4294967296) (hb : 0 ≤ b ∧ b < 4294967296) : Up a (bOr .u32 a b) := bOr_range ha hb

theorem sure_seal {A B : List Int} (hlen : A.length = B.length) (hl : A.length ≤ 100000000) (hu : ∀ j, j < A.length → Up (A.getD j 0) (B.getD j 0)) (ra : rightB A = true) (rb : rightB B = true) : A = B := by
  unfold rightB at ra rb
  rw [Bool.and_eq_true, decide_eq_true_iff, beq_iff_eq] at ra rb
  rw [← hlen] at rb
  obtain ⟨n, hn⟩ : ∃ n, A.length = n + 1 := ⟨A.length - 1, by omega⟩
  rw [hn, Nat.add_sub_cancel] at ra rb
  have z1 : zs (A.take n) = ((zsum (A.take n) : Nat) : Int) := by
    have := zsum_le (A.take n)
    rw [List.length_take] at this
    unfold zs
    rw [Nat.mod_eq_of_lt (by omega)]
  have z2 : zs (B.take n) = ((zsum (B.take n) : Nat) : Int) := by
    have := zsum_le (B.take n)
    rw [List.length_take] at this
    unfold zs
    rw [Nat.mod_eq_of_lt (by omega)]
  have hc := zsum_cmp (B.take n) (A.take n) (by rw [List.length_take, List.length_take]; omega) fun j a b ha hb => by
    have hj : j < n := by
      have := (List.getElem?_eq_some_iff.1 ha).1
      rw [List.length_take] at this
      omega
    rw [List.getElem?_take, if_pos hj, getD_some 0 (show j < B.length by omega)] at ha
    rw [List.getElem?_take, if_pos hj, getD_some 0 (show j < A.length by omega)] at hb
    cases ha; cases hb
    exact (hu j (by omega)).2.2
  have h3 := (hu n (by omega)).2.1
  have e := hc.2 (by omega)
  have eA : A = A.take n ++ [A.getD n 0] := by rw [← take_snoc 0 (show n < A.length by omega), List.take_of_length_le (by omega)]
  have eB : B = B.take n ++ [B.getD n 0] := by rw [← take_snoc 0 (show n < B.length by omega), List.take_of_length_le (by omega)]
  rw [eA, eB, e]
  congr 2
  omega

/-- Bits raised in the first words, where they may be. -/
def raisP (P : Nat → Bool) (s u : List Int) (m j : Nat) : Int := if j < m ∧ P j = true then bOr .u32 (s.getD j 0) (u.getD j 0) else s.getD j 0
def orP (P : Nat → Bool) (s u : List Int) (m : Nat) : List Int := (List.range s.length).map (raisP P s u m)
def sameP (P : Nat → Bool) (s u : List Int) : Nat → Bool
  | 0 => true
  | m + 1 => sameP P s u m && (!P m || (bOr .u32 (s.getD m 0) (u.getD m 0) == s.getD m 0))
section
variable {P : Nat → Bool} {s u : List Int} {m j : Nat}
theorem orP_len : (orP P s u m).length = s.length := by simp [orP]
theorem orP_get (h : j < s.length) : (orP P s u m)[j]? = some (raisP P s u m j) := by
  unfold orP
  rw [List.getElem?_map, List.getElem?_range h]
  rfl
theorem orP_getD (h : j < s.length) : (orP P s u m).getD j 0 = raisP P s u m j := by
  rw [List.getD_eq_getElem?_getD, orP_get h]
  rfl
theorem orP_zero : orP P s u 0 = s := by
  apply List.ext_getElem?
  intro j
  by_cases h : j < s.length
  · rw [orP_get h, word_some h]
    unfold raisP
    rw [if_neg (by omega)]
  · rw [List.getElem?_eq_none (by rw [orP_len]; omega), List.getElem?_eq_none (by omega)]
theorem orP_set (h : m < s.length) (hp : P m = true) : (orP P s u m).set m (bOr .u32 (s.getD m 0) (u.getD m 0)) = orP P s u (m + 1) := by
  apply List.ext_getElem?
  intro j
  rw [List.getElem?_set, orP_len]
  by_cases hj : j < s.length
  · rw [orP_get hj, orP_get hj]
    unfold raisP
    by_cases e : m = j
    · subst e
      rw [if_pos rfl, if_pos h, if_pos ⟨by omega, hp⟩]
    · rw [if_neg e]
      by_cases hl : j < m ∧ P j = true
      · rw [if_pos hl, if_pos ⟨by omega, hl.2⟩]
      · rw [if_neg hl, if_neg (fun h => hl ⟨by omega, h.2⟩)]
  · rw [List.getElem?_eq_none (by rw [orP_len]; omega), List.getElem?_eq_none (by rw [orP_len]; omega), if_neg (by omega)]
theorem orP_keep (hp : P m = false ∨ bOr .u32 (s.getD m 0) (u.getD m 0) = s.getD m 0) : orP P s u m = orP P s u (m + 1) := by
  unfold orP
  apply List.map_congr_left
  intro j _
  unfold raisP
  by_cases e : j = m
  · subst e
    rw [if_neg (by omega)]
    split
    · rename_i h
      rcases hp with hp | hp
      · rw [hp] at h; exact absurd h.2 (by decide)
      · exact hp.symm
    · rfl
  · by_cases hl : j < m ∧ P j = true
    · rw [if_pos hl, if_pos ⟨by omega, hl.2⟩]
    · rw [if_neg hl, if_neg (fun h => hl ⟨by omega, h.2⟩)]
theorem sameP_iff : ∀ m, sameP P s u m = true ↔ ∀ j, j < m → P j = true → bOr .u32 (s.getD j 0) (u.getD j 0) = s.getD j 0
  | 0 => by simp [sameP]
  | m + 1 => by
    rw [sameP, Bool.and_eq_true, sameP_iff m, Bool.or_eq_true, beq_iff_eq, Bool.not_eq_true']
    constructor
    · rintro ⟨h1, h2⟩ j hj hp
      by_cases e : j = m
      · subst e
        rcases h2 with h2 | h2
        · rw [h2] at hp; cases hp
        · exact h2
      · exact h1 j (by omega) hp
    · intro h
      refine ⟨fun j hj => h j (by omega), ?_⟩
      cases hp : P m
      · exact .inl rfl
      · exact .inr (h m (by omega) hp)
theorem sameP_eq (h : sameP P s u m = true) : orP P s u m = s := by
  apply List.ext_getElem?
  intro j
  by_cases hj : j < s.length
  · rw [orP_get hj, word_some hj]
    unfold raisP
    split
    · rename_i e
      rw [(sameP_iff m).1 h j e.1 e.2]
    · rfl
  · rw [List.getElem?_eq_none (by rw [orP_len]; omega), List.getElem?_eq_none (by omega)]
theorem sameP_ne (hm : m ≤ s.length) (h : sameP P s u m = false) : orP P s u m ≠ s := by
  intro e
  have : sameP P s u m = true := (sameP_iff m).2 fun j hj hp => by
    have h1 : (orP P s u m)[j]? = s[j]? := by rw [e]
    rw [orP_get (by omega), word_some (by omega)] at h1
    have h2 := Option.some.inj h1
    unfold raisP at h2
    rw [if_pos ⟨hj, hp⟩] at h2
    exact h2
  rw [h] at this
  cases this
theorem raisP_up (hs : Words s) (hu : Words u) : Up (s.getD j 0) (raisP P s u m j) := by
  unfold raisP
  split
  · exact Up.or (word_range hs j) (word_range hu j)
  · exact Up.refl (word_range hs j)
theorem orP_words (hs : Words s) (hu : Words u) : Words (orP P s u m) := by
  intro x hx
  unfold orP at hx
  obtain ⟨j, _, rfl⟩ := List.mem_map.1 hx
  exact inR_u32 (raisP_up hs hu).1
end

end Go.Proofs.Ytpidbpmkogbdeaa.Pure
