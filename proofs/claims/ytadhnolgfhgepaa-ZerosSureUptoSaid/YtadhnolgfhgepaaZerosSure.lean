/- The plain truth of ZerosSure. -/
import Derived.Test.YtadhnolgfhgepaaFlaw02
import Derived.Test.YtadhnolgfhgepaaQAwake02
namespace Go.Proofs.Ytadhnolgfhgepaa.Pure
open Go Go.Proofs.Ytadhnolgfhgepaa.Va
set_option linter.unusedVariables false
set_option linter.unusedSimpArgs false

theorem bk_sl3 : ∀ l : List Int, bk E0 2 (.slice 3 l) = l.length + 1 := by
  intro l
  show (l.map fun _ => 1 + 0).sum + 1 = l.length + 1
  induction l with
  | nil => rfl
  | cons x l ih => simp only [List.map_cons, List.sum_cons, List.length_cons] at *; omega

theorem pop_or : ∀ (k x y : Nat), x < 2 ^ k → y < 2 ^ k → pop x ≤ pop (x ||| y) ∧ (pop x = pop (x ||| y) → x ||| y = x)
  | 0, x, y, hx, hy => by
    have h1 : x = 0 := by simpa using hx
    have h2 : y = 0 := by simpa using hy
    subst h1; subst h2
    simp
  | k + 1, x, y, hx, hy => by
    rw [Nat.pow_succ] at hx hy
    obtain ⟨i1, i2⟩ := pop_or k (x / 2) (y / 2) (by omega) (by omega)
    have hm : (x ||| y) % 2 = (x % 2) ||| (y % 2) := by
      have := Nat.or_mod_two_pow (a := x) (b := y) (n := 1)
      simpa using this
    have hd : (x ||| y) / 2 = x / 2 ||| y / 2 := by
      have := Nat.or_div_two_pow (a := x) (b := y) (n := 1)
      simpa using this
    have e1 := pop_step x
    have e2 := pop_step (x ||| y)
    rw [hm, hd] at e2
    have hc : x % 2 ≤ (x % 2 ||| y % 2) ∧ (x % 2 ||| y % 2) ≤ 1 := by
      rcases Nat.mod_two_eq_zero_or_one x with h | h <;> rcases Nat.mod_two_eq_zero_or_one y with h' | h' <;> rw [h, h'] <;> decide
    refine ⟨by omega, fun h => ?_⟩
    have e3 : pop (x / 2) = pop (x / 2 ||| y / 2) := by omega
    have e4 := i2 e3
    have e5 := Nat.div_add_mod (x ||| y) 2
    have e6 := Nat.div_add_mod x 2
    rw [hm, hd, e4] at e5
    omega

theorem zsum_cmp : ∀ (A B : List Int), A.length = B.length → (∀ (j : Nat) (a b : Int), A[j]? = some a → B[j]? = some b → zer a ≤ zer b ∧ (zer a = zer b → a = b)) → zsum A ≤ zsum B ∧ (zsum A = zsum B → A = B)
  | [], [], _, _ => ⟨Nat.le_refl _, fun _ => rfl⟩
  | a :: A, b :: B, hl, h => by
    obtain ⟨h1, h2⟩ := h 0 a b rfl rfl
    obtain ⟨i1, i2⟩ := zsum_cmp A B (by simpa using hl) fun j x y hx hy => h (j + 1) x y (by simpa using hx) (by simpa using hy)
    have ea : zsum (a :: A) = zer a + zsum A := by simp [zsum]
    have eb : zsum (b :: B) = zer b + zsum B := by simp [zsum]
    refine ⟨by omega, fun e => ?_⟩
    rw [h2 (by omega), i2 (by omega)]
  | [], _ :: _, hl, _ => by simp at hl
  | _ :: _, [], hl, _ => by simp at hl

/-- Bits raised in the first words. -/
def raised (s u : List Int) (m j : Nat) : Int := if j < m then bOr .u32 (s.getD j 0) (u.getD j 0) else s.getD j 0
def orL (s u : List Int) (m : Nat) : List Int := (List.range s.length).map (raised s u m)
def sameTo (s u : List Int) : Nat → Bool
  | 0 => true
  | m + 1 => sameTo s u m && (bOr .u32 (s.getD m 0) (u.getD m 0) == s.getD m 0)

theorem orL_len (s u : List Int) (m : Nat) : (orL s u m).length = s.length := by simp [orL]
theorem orL_get {s u : List Int} {m j : Nat} (h : j < s.length) : (orL s u m)[j]? = some (raised s u m j) := by
  unfold orL
  rw [List.getElem?_map, List.getElem?_range h]
  rfl
theorem orL_zero (s u : List Int) : orL s u 0 = s := by
  apply List.ext_getElem?
  intro j
  by_cases h : j < s.length
  · rw [orL_get h, word_some h]
    rfl
  · rw [List.getElem?_eq_none (by rw [orL_len]; omega), List.getElem?_eq_none (by omega)]
theorem orL_set {s u : List Int} {m : Nat} (h : m < s.length) : (orL s u m).set m (bOr .u32 (s.getD m 0) (u.getD m 0)) = orL s u (m + 1) := by
  apply List.ext_getElem?
  intro j
  rw [List.getElem?_set, orL_len]
  by_cases hj : j < s.length
  · rw [orL_get hj, orL_get hj]
    unfold raised
    by_cases e : m = j
    · subst e
      rw [if_pos rfl, if_pos h, if_pos (by omega)]
    · rw [if_neg e]
      by_cases hl : j < m
      · rw [if_pos hl, if_pos (by omega)]
      · rw [if_neg hl, if_neg (by omega)]
  · rw [List.getElem?_eq_none (by rw [orL_len]; omega), List.getElem?_eq_none (by rw [orL_len]; omega), if_neg (by omega)]
theorem sameTo_iff (s u : List Int) : ∀ m, sameTo s u m = true ↔ ∀ j, j < m → bOr .u32 (s.getD j 0) (u.getD j 0) = s.getD j 0
  | 0 => by simp [sameTo]
  | m + 1 => by
    rw [sameTo, Bool.and_eq_true, sameTo_iff s u m, beq_iff_eq]
    constructor
    · rintro ⟨h1, h2⟩ j hj
      by_cases e : j = m
      · subst e; exact h2
      · exact h1 j (by omega)
    · intro h
      exact ⟨fun j hj => h j (by omega), h m (by omega)⟩

theorem sure_L7 {s u : List Int} (hs : s.length ≤ 2000000) (hu : u.length ≤ 2000000) : law02_ZerosSure.L7 u true 0 s s = some (sameTo s u (min s.length u.length), orL s u (min s.length u.length)) := by
  have := Lp_seq (fun q => (law02_ZerosSure.l7 u s q.1 q.2.1 q.2.2).run) (fun i => (sameTo s u i, ((i : Int), orL s u i))) (x := (sameTo s u (min s.length u.length), orL s u (min s.length u.length))) (min s.length u.length) 0 (fun i _ hi => ?_) ?_
  · rw [orL_zero] at this
    exact this
  · have h1 : i < s.length := by omega
    have h2 : i < u.length := by omega
    have e0 : raised s u i i = s.getD i 0 := by unfold raised; rw [if_neg (by omega)]
    have e1 : raised s u (i + 1) i = bOr .u32 (s.getD i 0) (u.getD i 0) := by unfold raised; rw [if_pos (by omega)]
    have hlt : ((0 : Int) ≤ (i : Int) ∧ (i : Int) < ((s.length : Nat) : Int)) := ⟨by omega, by omega⟩
    simp only [law02_ZerosSure.l7, Tw.run_bb, Tw.run_dd, Tw.run_opt, Tw.run_ret, Tw.run_no, orL_len, Int.toNat_natCast, orL_get h1, word_some h2, Option.bind_some, e0, orL_set h1, e1, word_some h1]
    rw [if_pos (by rw [decide_eq_true_eq]; omega), if_pos (by rw [decide_eq_true_eq]; omega), if_pos hlt, if_pos hlt.1, w64_of (by omega) (by omega)]
    simp only [if_pos hlt]
    cases hb : sameTo s u i with
    | true =>
      simp only [if_true, sameTo, hb, Bool.true_and]
      rfl
    | false =>
      simp only [Bool.false_eq_true, if_false, sameTo, hb, Bool.false_and]
      rfl
  · simp only [law02_ZerosSure.l7, Tw.run_bb, Tw.run_ret, Nat.zero_add, orL_len]
    by_cases h : min s.length u.length < s.length
    · rw [if_pos (by rw [decide_eq_true_eq]; omega), if_neg (by rw [decide_eq_true_eq]; omega)]
    · rw [if_neg (by rw [decide_eq_true_eq]; omega)]

theorem bOr_range {a b : Int} (ha : 0 ≤ a ∧ a < 4294967296) (hb : 0 ≤ b ∧ b < 4294967296) : (0 ≤ bOr .u32 a b ∧ bOr .u32 a b < 4294967296) ∧ a ≤ bOr .u32 a b ∧ zer (bOr .u32 a b) ≤ zer a ∧ (zer (bOr .u32 a b) = zer a → bOr .u32 a b = a) := by
  obtain ⟨x, rfl⟩ := Int.eq_ofNat_of_zero_le ha.1
  obtain ⟨y, rfl⟩ := Int.eq_ofNat_of_zero_le hb.1
  rw [bOr_nat x y (by omega) (by omega)]
  have h1 : x ||| y < 2 ^ 32 := Nat.or_lt_two_pow (by omega) (by omega)
  have h2 : x ≤ x ||| y := Nat.left_le_or
  obtain ⟨p1, p2⟩ := pop_or 32 x y (by omega) (by omega)
  have q1 := pop_le 32 (x ||| y) h1
  unfold zer
  rw [Int.toNat_natCast, Int.toNat_natCast]
  refine ⟨by omega, by omega, by omega, fun e => ?_⟩
  rw [p2 (by omega)]

theorem ZerosSure (a0 : List Int) (a1 : List Int) (w0 : a0.length * 4 ≤ reachBytes) (w1 : ∀ x2 ∈ a0, InR .u32 x2) (w2 : a1.length * 4 ≤ reachBytes) (w3 : ∀ x5 ∈ a1, InR .u32 x5) (wb : ∀ k, bkL E0 k [.slice 3 a0, .slice 3 a1] ≤ 1048576) : law02_ZerosSure.c a0 a1 = some true := by
  have hb := wb 2
  simp only [bkL, List.map_cons, List.map_nil, List.sum_cons, List.sum_nil, bk_sl3] at hb
  have hw : Words a0 := w1
  have hu : Words a1 := w3
  obtain ⟨s, hs⟩ : ∃ s, s = a0 ++ [zs a0] := ⟨_, rfl⟩
  have hz := zsum_le a0
  have hzs : zs a0 = ((zsum a0 : Nat) : Int) := by
    unfold zs
    rw [Nat.mod_eq_of_lt (by omega)]
  have hsl : s.length = a0.length + 1 := by rw [hs]; simp
  have hsw : Words s := by
    intro x hx
    rw [hs] at hx
    rcases List.mem_append.1 hx with hx | hx
    · exact hw x hx
    · rw [List.mem_singleton] at hx
      rw [hx, hzs]
      exact inR_u32 (by omega)
  have hsj : ∀ j, 0 ≤ s.getD j 0 ∧ s.getD j 0 < 4294967296 := fun j => word_range hsw j
  have huj : ∀ j, 0 ≤ a1.getD j 0 ∧ a1.getD j 0 < 4294967296 := fun j => word_range hu j
  have h0 : ∀ j, j < a0.length → s.getD j 0 = a0.getD j 0 := fun j hj => by
    rw [hs, List.getD_eq_getElem?_getD, List.getElem?_append_left hj, ← List.getD_eq_getElem?_getD]
  have hn : s.getD a0.length 0 = zs a0 := by
    rw [hs, List.getD_eq_getElem?_getD, List.getElem?_append_right (Nat.le_refl _), Nat.sub_self]
    rfl
  obtain ⟨m, hm⟩ : ∃ m, m = min s.length a1.length := ⟨_, rfl⟩
  obtain ⟨T, hT⟩ : ∃ T, T = orL s a1 m := ⟨_, rfl⟩
  have hTl : T.length = a0.length + 1 := by rw [hT, orL_len, hsl]
  have hrj : ∀ j, (0 ≤ raised s a1 m j ∧ raised s a1 m j < 4294967296) ∧ s.getD j 0 ≤ raised s a1 m j ∧ zer (raised s a1 m j) ≤ zer (s.getD j 0) ∧ (zer (raised s a1 m j) = zer (s.getD j 0) → raised s a1 m j = s.getD j 0) := by
    intro j
    unfold raised
    split
    · exact bOr_range (hsj j) (huj j)
    · exact ⟨hsj j, Int.le_refl _, Nat.le_refl _, fun _ => rfl⟩
  have hTw : Words T := by
    intro x hx
    rw [hT] at hx
    obtain ⟨j, _, rfl⟩ := List.mem_map.1 hx
    exact inR_u32 (hrj j).1
  have hTn : T.getD a0.length 0 = raised s a1 m a0.length := by
    rw [List.getD_eq_getElem?_getD, hT, orL_get (by omega)]
    rfl
  have hcmp := zsum_cmp (T.take a0.length) a0 (by rw [List.length_take]; omega) (fun j a b ha hb' => by
    have hj : j < a0.length := (List.getElem?_eq_some_iff.1 hb').1
    rw [List.getElem?_take, if_pos hj, hT, orL_get (by omega)] at ha
    cases ha
    rw [word_some hj] at hb'
    cases hb'
    rw [← h0 j hj]
    exact ⟨(hrj j).2.2.1, (hrj j).2.2.2⟩)
  have hzT : zs (T.take a0.length) = ((zsum (T.take a0.length) : Nat) : Int) := by
    unfold zs
    rw [Nat.mod_eq_of_lt (by omega)]
  have hr1 : rightB s = true := by
    unfold rightB
    rw [hsl, show a0.length + 1 - 1 = a0.length by omega, hn]
    have : s.take a0.length = a0 := by rw [hs]; simp
    rw [this]
    simp
  have hkey : rightB T = sameTo s a1 m := by
    rw [Bool.eq_iff_iff, sameTo_iff]
    unfold rightB
    rw [hTl, show a0.length + 1 - 1 = a0.length by omega, hTn, hzT, Bool.and_eq_true, decide_eq_true_iff, beq_iff_eq]
    have hge := (hrj a0.length).2.1
    rw [hn, hzs] at hge
    constructor
    · rintro ⟨_, e⟩ j hj
      have e1 : zsum (T.take a0.length) = zsum a0 := by omega
      have e2 := hcmp.2 e1
      by_cases hja : j < a0.length
      · have e3 : T[j]? = a0[j]? := by
          have : (T.take a0.length)[j]? = a0[j]? := by rw [e2]
          rwa [List.getElem?_take, if_pos hja] at this
        rw [hT, orL_get (by omega), word_some hja, ← h0 j hja] at e3
        have e4 := Option.some.inj e3
        unfold raised at e4
        rw [if_pos hj] at e4
        exact e4
      · have : j = a0.length := by omega
        subst this
        have e4 : raised s a1 m a0.length = s.getD a0.length 0 := by rw [hn, hzs]; omega
        unfold raised at e4
        rw [if_pos hj] at e4
        exact e4
    · intro h
      have hall : ∀ j, raised s a1 m j = s.getD j 0 := fun j => by
        unfold raised
        split
        · rename_i hj; exact h j hj
        · rfl
      refine ⟨by omega, ?_⟩
      have e2 : T.take a0.length = a0 := by
        apply List.ext_getElem?
        intro j
        by_cases hja : j < a0.length
        · rw [List.getElem?_take, if_pos hja, hT, orL_get (by omega), hall, h0 j hja, word_some hja]
        · rw [List.getElem?_eq_none (by rw [List.length_take]; omega), List.getElem?_eq_none (by omega)]
      rw [e2, hall, hn, hzs]
  have h1 : w64 ((a0.length : Int) + 1) = ((a0.length + 1 : Nat) : Int) := by rw [w64_of (by omega) (by omega)]; omega
  have hm2 : min (a0.length + 1) a1.length = m := by rw [hm, hsl]
  simp only [law02_ZerosSure.c, law02_ZerosSure.t, Tw.run_opt, Tw.run_bb, Tw.run_dd, Tw.run_ret, Tw.run_no, zeros_Seal_eq hw w0, Option.bind_some, ← hs, zeros_Right_eq hsw (show s.length ≤ 140737488351232 by omega), hr1, hsl, h1, sure_L7 (s := s) (u := a1) (by omega) (by omega), hm2, ← hT, zeros_Right_eq hTw (show T.length ≤ 140737488351232 by omega), hkey, awake02]
  rw [if_neg (by decide), if_neg (by simp), if_pos ⟨by omega, by omega⟩, if_pos (by simp)]

end Go.Proofs.Ytadhnolgfhgepaa.Pure
