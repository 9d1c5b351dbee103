/- Drives: what a run is behind a Write, or Fresh, with power and no fuse. -/
import Derived.Test.YtnlclchlnngdnaaQDrive3
namespace Go.Proofs.Ytnlclchlnngdnaa.Pure
open Go Go.Proofs.Ytnlclchlnngdnaa.Va
set_option linter.unusedVariables false
set_option linter.unusedSimpArgs false

theorem w64_mod (n : Int) : (w64 n - n) % 18446744073709551616 = 0 := by
  have e : w64 n = if n % 18446744073709551616 ≥ 9223372036854775808 then n % 18446744073709551616 - 18446744073709551616 else n % 18446744073709551616 := by
    simp [IntKind.wrap, IntKind.bits, IntKind.signed]
  rw [e]
  split <;> omega
theorem andn_ones {w : Int} (hw : InR .u32 w) : bAndn .u32 w 4294967295 = 0 := by
  obtain ⟨a, rfl, ha⟩ := u32_nat hw
  have : sub32 a 4294967295 = 0 := ext32 (sub_lt _ _) (by decide) (fun i hi => by
    rw [sub_bit _ _ _ hi, Nat.zero_testBit, show (4294967295 : Nat) = 2 ^ 32 - 1 by decide, Nat.testBit_two_pow_sub_one]
    simp [hi])
  rw [show (4294967295 : Int) = ((4294967295 : Nat) : Int) from rfl, bAndn_nat, this]
  rfl
theorem set_get {W : List Int} {j : Nat} (y : Int) (i : Nat) (hj : j < W.length) : (W.set j y).getD i 0 = if i = j then y else W.getD i 0 := by
  simp only [List.getD_eq_getElem?_getD]
  by_cases h : i = j
  · subst h
    rw [if_pos rfl, List.getElem?_set_self hj]
    rfl
  · rw [if_neg h, List.getElem?_set_ne (by omega)]
/-- With power, and no fuse, a word that may be written is written. -/
theorem prog_lit {s : Fl} (hD : s.D = false) (hA : s.A < 0) {a : Nat} {x : Int} (ha : a < s.W.length) (hx : bAndn .u32 x (s.W.getD a 0) = 0) : s.prog (a : Int) x = (0, { s with C := w64 (s.C + 1), W := s.W.set a x }) := by
  unfold Fl.prog
  rw [if_neg (by rw [hD]; simp), if_neg (by omega), Int.toNat_natCast, if_neg (by simpa using hx), if_neg (by omega)]
  have : burn s.A = s.A := by unfold burn; rw [if_pos hA]
  rw [this]
/-- Where words are written, they stand; elsewhere it is as it was. -/
def putAt (W w : List Int) (a i : Nat) : Int := if a ≤ i ∧ i < a + w.length then w.getD (i - a) 0 else W.getD i 0
theorem wrL_lit : ∀ (w : List Int) (a : Nat) (s : Fl), s.D = false → s.A < 0 → a + w.length ≤ s.W.length → (∀ i, i < w.length → bAndn .u32 (w.getD i 0) (s.W.getD (a + i) 0) = 0) →
    ∃ s', wrL w a s = (0, s') ∧ s'.D = false ∧ s'.A = s.A ∧ s'.W.length = s.W.length ∧ (∀ i, s'.W.getD i 0 = putAt s.W w a i) ∧ ∃ c : Nat, c ≤ w.length ∧ (s'.C - s.C - (c : Int)) % 18446744073709551616 = 0
  | [], a, s, hD, hA, hl, hv => ⟨s, rfl, hD, rfl, rfl, fun i => by unfold putAt; rw [if_neg (by simp only [List.length_nil]; omega)], 0, by simp, by omega⟩
  | x :: w, a, s, hD, hA, hl, hv => by
    rw [List.length_cons] at hl
    have h0 := hv 0 (by simp)
    rw [Nat.add_zero] at h0
    by_cases hc : s.W.getD a 0 = x
    · obtain ⟨s', e1, e2, e3, e4, e5, c, e6, e7⟩ := wrL_lit w (a + 1) s hD hA (by omega) (fun i hi => by
        have := hv (i + 1) (by simpa using hi)
        rw [show a + (i + 1) = a + 1 + i by omega] at this
        exact this)
      refine ⟨s', by rw [wrL, if_pos hc, e1], e2, e3, e4, fun i => ?_, c, by rw [List.length_cons]; omega, e7⟩
      rw [e5]
      unfold putAt
      rw [List.length_cons]
      by_cases hi : i = a
      · subst hi
        rw [if_neg (by omega), if_pos (by omega), Nat.sub_self, hc]
        rfl
      · by_cases hi2 : a + 1 ≤ i ∧ i < a + 1 + w.length
        · rw [if_pos hi2, if_pos (by omega), show i - a = (i - (a + 1)) + 1 by omega]
          rfl
        · rw [if_neg hi2, if_neg (by omega)]
    · have hp := prog_lit hD hA (a := a) (x := x) (by omega) h0
      obtain ⟨s', e1, e2, e3, e4, e5, c, e6, e7⟩ := wrL_lit w (a + 1) { s with C := w64 (s.C + 1), W := s.W.set a x } hD hA (by simp only [List.length_set]; omega) (fun i hi => by
        have := hv (i + 1) (by simpa using hi)
        rw [show a + (i + 1) = a + 1 + i by omega] at this
        simp only
        rw [set_get _ _ (by omega), if_neg (by omega)]
        exact this)
      simp only [List.length_set] at e3 e4 e5 e7
      have hm := w64_mod (s.C + 1)
      refine ⟨s', by rw [wrL, if_neg hc, hp, if_neg (by simp)]; exact e1, e2, e3, e4, fun i => ?_, c + 1, by rw [List.length_cons]; omega, by push_cast; omega⟩
      rw [e5]
      unfold putAt
      rw [List.length_cons]
      by_cases hi : i = a
      · subst hi
        rw [if_neg (by omega), if_pos (by omega), Nat.sub_self, set_get _ _ (by omega), if_pos rfl]
        rfl
      · by_cases hi2 : a + 1 ≤ i ∧ i < a + 1 + w.length
        · rw [if_pos hi2, if_pos (by omega), show i - a = (i - (a + 1)) + 1 by omega]
          rfl
        · rw [if_neg hi2, if_neg (by omega), set_get _ _ (by omega), if_neg hi]
theorem viol_of {W w : List Int} {a : Nat} (h : ∀ i, i < w.length → bAndn .u32 (w.getD i 0) (W.getD (a + i) 0) = 0) : viol W w a = false := by
  unfold viol
  rw [List.any_eq_false]
  intro i hi
  rw [h i (List.mem_range.1 hi)]
  simp
theorem first_lit {n : Nat} {s : Fl} (hD : s.D = false) (k at_ c : Int) : (s.first n k at_ c).2 = 0 ∨ (s.first n k at_ c).2 = 3 := by
  unfold Fl.first
  rw [hD]
  split
  · exact Or.inr rfl
  · exact Or.inl rfl

theorem first_ok {n : Nat} {s : Fl} (hD : s.D = false) {j b c : Nat} (hj : j < s.V.length) (hb : b + c ≤ n) : s.first n (j : Int) (b : Int) (c : Int) = (((j * n + b : Nat) : Int), 0) := by
  unfold Fl.first
  rw [if_neg (by omega), hD, if_neg (by simp), Int.toNat_natCast, Int.toNat_natCast]
section
variable {n : Nat} {s : Fl} (hs : FlOK n s) (hD : s.D = false) (hA : s.A < 0) {w : List Int} (hw : Words w)
include hs hD hA hw
omit hs hw in
theorem clean_lit {j : Nat} (hj : j < s.V.length) (hjn : j * n + n ≤ s.W.length) : (s.clean n (j : Int)).1 = 0 ∧ (s.clean n (j : Int)).2.D = false ∧ (s.clean n (j : Int)).2.A = s.A ∧ (s.clean n (j : Int)).2.W.length = s.W.length ∧
    ∀ i, (s.clean n (j : Int)).2.W.getD i 0 = if j * n ≤ i ∧ i < j * n + n then 4294967295 else s.W.getD i 0 := by
  have hf : s.first n (j : Int) 0 ((n : Int) - 0) = (((j * n + 0 : Nat) : Int), 0) := by
    have := first_ok (n := n) hD (j := j) (b := 0) (c := n) hj (by omega)
    rw [show ((n : Int) - 0) = (n : Int) by omega]
    exact this
  have hr : s.dread n (j : Int) 0 ((n : Int) - 0) = (0, rd s.W (j * n) n) := by
    unfold Fl.dread
    rw [hf, if_neg (by simp), Int.toNat_natCast, show ((n : Int) - 0).toNat = n by omega, Nat.add_zero]
  have hb : s.blank n (j : Int) 0 = ((rd s.W (j * n) n).all (· == 4294967295), 0) := by
    unfold Fl.blank
    rw [if_neg (by omega), hr, if_neg (by simp)]
  unfold Fl.clean
  rw [hb]
  simp only
  rw [if_neg (by simp)]
  by_cases hall : (rd s.W (j * n) n).all (· == 4294967295) = true
  · rw [if_pos hall]
    refine ⟨rfl, hD, rfl, rfl, fun i => ?_⟩
    split
    · rename_i hi
      rw [List.all_eq_true] at hall
      have := hall (s.W.getD i 0) (List.mem_of_getElem? (i := i - j * n) (by rw [rd_get (by omega), show j * n + (i - j * n) = i by omega]))
      simpa using this
    · rfl
  · rw [if_neg hall]
    unfold Fl.erase
    rw [hD, if_neg (by simp), if_neg (by omega), if_neg (by omega), Int.toNat_natCast]
    have : burn s.A = s.A := by unfold burn; rw [if_pos hA]
    refine ⟨rfl, rfl, this, by simp only; exact upd_len hjn, fun i => ?_⟩
    simp only
    rw [upd_get hjn]
theorem fresh_lit (k : Int) : ((s.fresh n k w).1 ≠ 0 → (s.fresh n k w).2 = s ∧ (s.fresh n k w).1 = 3) ∧
    ((s.fresh n k w).1 = 0 → ∃ j : Nat, k = j ∧ w.length ≤ n ∧ j * n + n ≤ s.W.length ∧ (s.fresh n k w).2.W.length = s.W.length ∧
      (∀ i, (s.fresh n k w).2.W.getD i 0 = if j * n ≤ i ∧ i < j * n + w.length then w.getD (i - j * n) 0 else if j * n ≤ i ∧ i < j * n + n then 4294967295 else s.W.getD i 0)) := by
  rcases first_lit (n := n) hD k 0 w.length with h | h
  rotate_left
  · have : s.fresh n k w = (3, s) := by
      unfold Fl.fresh
      rw [h, if_pos (by decide)]
    rw [this]
    exact ⟨fun _ => ⟨rfl, rfl⟩, fun h => by simp at h⟩
  obtain ⟨_, j, b, d, rfl, hb0, hd, h1, h2, h3, h4⟩ := first_at (g1 := 0) (g2 := (s.V.length : Int) - 2) hs (by omega) h
  have hd : w.length = d := by omega
  subst hd
  have hb0 : b = 0 := by omega
  subst hb0
  obtain ⟨c1, c2, c3, c4, c5⟩ := clean_lit hD hA h4 h3
  have cok := (clean_ok hs (j : Int)).1
  have cV := (clean_ok hs (j : Int)).2.1
  have e : s.fresh n (j : Int) w = (s.clean n (j : Int)).2.dwrite n (j : Int) 0 w := by
    unfold Fl.fresh
    rw [h, if_neg (by decide), c1, if_neg (by decide)]
  rw [e]
  generalize (s.clean n (j : Int)).2 = s' at *
  have hf : s'.first n (j : Int) 0 (w.length : Int) = (((j * n + 0 : Nat) : Int), 0) := by
    have := first_ok (n := n) c2 (j := j) (b := 0) (c := w.length) (by omega) (by omega)
    exact this
  have hvf : ∀ i, i < w.length → bAndn .u32 (w.getD i 0) (s'.W.getD (j * n + 0 + i) 0) = 0 := fun i hi => by
    rw [c5, if_pos (by omega)]
    exact andn_ones (hw _ (List.mem_of_getElem? (getD_some 0 hi)))
  have e2 : s'.dwrite n (j : Int) 0 w = wrL w (j * n + 0) s' := by
    unfold Fl.dwrite
    simp only [hf]
    rw [if_neg (by decide), Int.toNat_natCast, viol_of hvf, if_neg (by decide)]
  obtain ⟨s'', f1, f2, f3, f4, f5, _⟩ := wrL_lit w (j * n + 0) s' c2 (by rw [c3]; exact hA) (by omega) hvf
  rw [e2, f1]
  refine ⟨fun h => absurd rfl h, fun _ => ⟨j, rfl, by omega, h3, by rw [f4, c4], fun i => ?_⟩⟩
  rw [f5]
  unfold putAt
  rw [Nat.add_zero, c5]
end

end Go.Proofs.Ytnlclchlnngdnaa.Pure
