/- Slots: what is there when the power went in an act. -/
import Derived.Test.YtnlclchlnngdnaaQSlot2
namespace Go.Proofs.Ytnlclchlnngdnaa.Pure
open Go Go.Proofs.Ytnlclchlnngdnaa.Va
set_option linter.unusedVariables false
set_option linter.unusedSimpArgs false

theorem prog_arm {s : Fl} (hD : s.D = false) {a : Nat} {x : Int} (ha : a < s.W.length) (hx : bAndn .u32 x (s.W.getD a 0) = 0) :
    (∃ y, (s.prog (a : Int) x).2.W = s.W.set a y) ∧ ((s.prog (a : Int) x).1 = 0 → (s.prog (a : Int) x).2.D = false ∧ (s.prog (a : Int) x).2.W = s.W.set a x) := by
  unfold Fl.prog
  rw [hD, if_neg (by simp), if_neg (by omega), Int.toNat_natCast, hx, if_neg (by simp)]
  split
  · exact ⟨⟨_, rfl⟩, fun h => absurd (show (10 : Int) = 0 from h) (by decide)⟩
  · exact ⟨⟨_, rfl⟩, fun _ => ⟨rfl, rfl⟩⟩
theorem wrL_arm : ∀ (w : List Int) (a : Nat) (s : Fl), s.D = false → a + w.length ≤ s.W.length → (∀ i, i < w.length → bAndn .u32 (w.getD i 0) (s.W.getD (a + i) 0) = 0) →
    (wrL w a s).2.W.length = s.W.length ∧ (∀ i, ¬(a ≤ i ∧ i < a + w.length) → (wrL w a s).2.W.getD i 0 = s.W.getD i 0) ∧ ((wrL w a s).1 = 0 → (wrL w a s).2.D = false ∧ ∀ i, (wrL w a s).2.W.getD i 0 = putAt s.W w a i)
  | [], a, s, hD, hl, hv => ⟨rfl, fun i _ => rfl, fun _ => ⟨hD, fun i => by unfold putAt; rw [if_neg (by simp only [List.length_nil]; omega)]; rfl⟩⟩
  | x :: w, a, s, hD, hl, hv => by
    rw [List.length_cons] at hl
    have h0 := hv 0 (by simp)
    rw [Nat.add_zero] at h0
    have hput : ∀ (W' : List Int) (i : Nat), (∀ k, k ≠ a → W'.getD k 0 = s.W.getD k 0) → W'.getD a 0 = x → putAt W' w (a + 1) i = putAt s.W (x :: w) a i := fun W' i h1 h2 => by
      unfold putAt
      rw [List.length_cons]
      by_cases hi : i = a
      · subst hi
        rw [if_neg (by omega), if_pos (by omega), Nat.sub_self, h2]
        rfl
      · by_cases hi2 : a + 1 ≤ i ∧ i < a + 1 + w.length
        · rw [if_pos hi2, if_pos (by omega), show i - a = (i - (a + 1)) + 1 by omega]
          rfl
        · rw [if_neg hi2, if_neg (by omega), h1 i hi]
    unfold wrL
    by_cases hc : s.W.getD a 0 = x
    · rw [if_pos hc]
      obtain ⟨e1, e2, e3⟩ := wrL_arm w (a + 1) s hD (by omega) (fun i hi => by
        have := hv (i + 1) (by simpa using hi)
        rw [show a + (i + 1) = a + 1 + i by omega] at this
        exact this)
      refine ⟨e1, fun i hi => e2 i (by rw [List.length_cons] at hi; omega), fun h => ⟨(e3 h).1, fun i => ?_⟩⟩
      rw [(e3 h).2]
      exact hput s.W i (fun _ _ => rfl) hc
    · rw [if_neg hc]
      obtain ⟨⟨y, p1⟩, p2⟩ := prog_arm hD (a := a) (x := x) (by omega) (by simpa using h0)
      by_cases hp : (s.prog (a : Int) x).1 = 0
      rotate_left
      · rw [if_pos hp]
        refine ⟨by rw [p1, List.length_set], fun i hi => ?_, fun h => absurd h hp⟩
        rw [p1, set_get y i (by omega), if_neg (by rw [List.length_cons] at hi; omega)]
      rw [if_neg (by simpa using hp)]
      obtain ⟨q1, q2⟩ := p2 hp
      generalize (s.prog (a : Int) x).2 = s1 at *
      obtain ⟨e1, e2, e3⟩ := wrL_arm w (a + 1) s1 q1 (by rw [q2, List.length_set]; omega) (fun i hi => by
        have := hv (i + 1) (by simpa using hi)
        rw [q2, set_get _ _ (by omega), if_neg (by omega), show a + 1 + i = a + (i + 1) by omega]
        exact this)
      refine ⟨by rw [e1, q2, List.length_set], fun i hi => ?_, fun h => ⟨(e3 h).1, fun i => ?_⟩⟩
      · rw [List.length_cons] at hi
        rw [e2 i (by omega), q2, set_get _ _ (by omega), if_neg (by omega)]
      · rw [(e3 h).2]
        exact hput s1.W i (fun k hk => by rw [q2, set_get _ _ (by omega), if_neg hk]) (by rw [q2, set_get _ _ (by omega), if_pos rfl])
theorem ones_ne (w m : Int) (hw : InR .u32 w) (hm : InR .u32 m) (h : bOr .u32 w m = 0) : w = 0 := by
  obtain ⟨a, rfl, ha⟩ := u32_nat hw
  obtain ⟨b, rfl, hb⟩ := u32_nat hm
  rw [bOr_nat a b ha hb] at h
  have h : a ||| b = 0 := by exact_mod_cast h
  have := (Nat.or_eq_zero_iff.1 h).1
  omega
theorem andn_zero {w : Int} (hw : InR .u32 w) : bAndn .u32 0 w = 0 := by
  obtain ⟨a, rfl, ha⟩ := u32_nat hw
  have : sub32 0 a = 0 := ext32 (sub_lt _ _) (by decide) (fun i hi => by rw [sub_bit _ _ _ hi, Nat.zero_testBit]; rfl)
  rw [show (0 : Int) = ((0 : Nat) : Int) from rfl, bAndn_nat, this]
theorem getD_in {n : Nat} {s : Fl} (hs : FlOK n s) (i : Nat) : InR .u32 (s.W.getD i 0) := by
  by_cases h : i < s.W.length
  · exact hs.w _ (List.mem_of_getElem? (getD_some 0 h))
  · rw [List.getD_eq_getElem?_getD, List.getElem?_eq_none (by omega)]
    exact inR_u32 (by decide)
/-- A sector is cleaned, and the power may go. -/
theorem clean_arm {n : Nat} {s : Fl} (hs : FlOK n s) (hD : s.D = false) {j : Nat} (hj : j < s.V.length) :
    (s.clean n (j : Int)).2.W.length = s.W.length ∧ (∀ i, ¬(j * n ≤ i ∧ i < j * n + n) → (s.clean n (j : Int)).2.W.getD i 0 = s.W.getD i 0) ∧
    (∀ i, (s.clean n (j : Int)).2.W.getD i 0 = 0 → s.W.getD i 0 = 0) ∧
    ((s.clean n (j : Int)).1 = 0 → (s.clean n (j : Int)).2.D = false ∧ ∀ i, (s.clean n (j : Int)).2.W.getD i 0 = if j * n ≤ i ∧ i < j * n + n then 4294967295 else s.W.getD i 0) := by
  have hjn : j * n + n ≤ s.W.length := by
    rw [hs.ws]
    have := Nat.mul_le_mul_right n (show j + 1 ≤ s.V.length by omega)
    rw [Nat.add_mul, Nat.one_mul] at this
    exact this
  have hf : s.first n (j : Int) 0 ((n : Int) - 0) = (((j * n + 0 : Nat) : Int), 0) := by
    have := first_ok (n := n) hD (j := j) (b := 0) (c := n) hj (by omega)
    rw [show ((n : Int) - 0) = (n : Int) by omega]
    exact this
  have hr : s.dread n (j : Int) 0 ((n : Int) - 0) = (0, rd s.W (j * n) n) := by
    unfold Fl.dread
    rw [hf, if_neg (by simp), Int.toNat_natCast, show ((n : Int) - 0).toNat = n by omega, Nat.add_zero]
  have hb : s.blank n (j : Int) 0 = ((rd s.W (j * n) n).all (· == 4294967295), 0) := by
    unfold Fl.blank
    rw [if_neg (by omega), hr, if_neg (by simp)]
  unfold Fl.clean
  rw [hb]
  simp only
  rw [if_neg (by simp)]
  by_cases hall : (rd s.W (j * n) n).all (· == 4294967295) = true
  · rw [if_pos hall]
    refine ⟨rfl, fun i _ => rfl, fun i h => h, fun _ => ⟨hD, fun i => ?_⟩⟩
    split
    · rename_i hi
      rw [List.all_eq_true] at hall
      have := hall (s.W.getD i 0) (List.mem_of_getElem? (i := i - j * n) (by rw [rd_get (by omega), show j * n + (i - j * n) = i by omega]))
      simpa using this
    · rfl
  · rw [if_neg hall]
    unfold Fl.erase
    rw [hD, if_neg (by simp), if_neg (by omega), Int.toNat_natCast]
    by_cases hA : s.A = 0
    · rw [if_pos hA]
      refine ⟨by simp only; exact upd_len hjn, fun i hi => ?_, fun i h => ?_, fun h => absurd (show (10 : Int) = 0 from h) (by decide)⟩
      · simp only
        rw [upd_get hjn, if_neg hi]
      · simp only at h
        rw [upd_get hjn] at h
        split at h
        · exact (ones_ne _ _ (getD_in hs i) (fz_in hs.m _) h)
        · exact h
    · rw [if_neg hA]
      refine ⟨by simp only; exact upd_len hjn, fun i hi => ?_, fun i h => ?_, fun _ => ⟨rfl, fun i => ?_⟩⟩
      · simp only
        rw [upd_get hjn, if_neg hi]
      · simp only at h
        rw [upd_get hjn] at h
        split at h
        · exact absurd h (by decide)
        · exact h
      · simp only
        rw [upd_get hjn]
/-- A run is written, and the power may go. -/
theorem dwrite_arm {n : Nat} {s : Fl} (hD : s.D = false) {j b : Nat} (hj : j < s.V.length) {w : List Int} (hl : b + w.length ≤ n) (hjn : j * n + n ≤ s.W.length) (hv : ∀ i, i < w.length → bAndn .u32 (w.getD i 0) (s.W.getD (j * n + b + i) 0) = 0) :
    s.dwrite n (j : Int) (b : Int) w = wrL w (j * n + b) s := by
  have hf := first_ok (n := n) hD (j := j) (b := b) (c := w.length) hj hl
  unfold Fl.dwrite
  simp only [hf]
  rw [if_neg (fun h => h rfl), Int.toNat_natCast, viol_of hv, if_neg (by decide)]
/-- A sector is made fresh, and the power may go. -/
theorem fresh_arm {n : Nat} {s : Fl} (hs : FlOK n s) (hD : s.D = false) {j : Nat} (hj : j < s.V.length) {w : List Int} (hw : Words w) (hl : w.length ≤ n) :
    (s.fresh n (j : Int) w).2.W.length = s.W.length ∧ (∀ i, ¬(j * n ≤ i ∧ i < j * n + n) → (s.fresh n (j : Int) w).2.W.getD i 0 = s.W.getD i 0) ∧
    ((s.fresh n (j : Int) w).1 = 0 → (s.fresh n (j : Int) w).2.D = false ∧ ∀ i, i < w.length → (s.fresh n (j : Int) w).2.W.getD (j * n + i) 0 = w.getD i 0) := by
  have hjn : j * n + n ≤ s.W.length := by
    rw [hs.ws]
    have := Nat.mul_le_mul_right n (show j + 1 ≤ s.V.length by omega)
    rw [Nat.add_mul, Nat.one_mul] at this
    exact this
  have hf := first_ok (n := n) hD (j := j) (b := 0) (c := w.length) hj (by omega)
  have hf : s.first n (j : Int) 0 (w.length : Int) = (((j * n + 0 : Nat) : Int), 0) := hf
  obtain ⟨c1, c2, c3, c4⟩ := clean_arm hs hD hj
  have cV := (clean_ok hs (j : Int)).2.1
  unfold Fl.fresh
  rw [hf, if_neg (fun h => h rfl)]
  by_cases hc : (s.clean n (j : Int)).1 = 0
  rotate_left
  · rw [if_pos hc]
    exact ⟨c1, c2, fun h => absurd h hc⟩
  rw [if_neg (by simpa using hc)]
  obtain ⟨d1, d2⟩ := c4 hc
  generalize (s.clean n (j : Int)).2 = s1 at *
  have hvf : ∀ i, i < w.length → bAndn .u32 (w.getD i 0) (s1.W.getD (j * n + 0 + i) 0) = 0 := fun i hi => by
    rw [d2, if_pos (by omega)]
    exact andn_ones (hw _ (List.mem_of_getElem? (getD_some 0 hi)))
  have e := dwrite_arm (n := n) d1 (j := j) (b := 0) (by omega) (w := w) (by omega) (by omega) hvf
  have e : s1.dwrite n (j : Int) 0 w = wrL w (j * n + 0) s1 := e
  obtain ⟨e1, e2, e3⟩ := wrL_arm w (j * n + 0) s1 d1 (by omega) hvf
  rw [e]
  refine ⟨by rw [e1, c1], fun i hi => by rw [e2 i (by omega), c2 i hi], fun h => ⟨(e3 h).1, fun i hi => ?_⟩⟩
  rw [(e3 h).2]
  unfold putAt
  rw [if_pos (by omega), show j * n + i - (j * n + 0) = i by omega]
/-- The ledger's word is written, and the power may go. -/
theorem mark_arm {n : Nat} {s : Fl} (hs : FlOK n s) (hD : s.D = false) {j b : Nat} (hj : j < s.V.length) (hl : b < n) (hjn : j * n + n ≤ s.W.length) :
    ∃ y, (s.dwrite n (j : Int) (b : Int) [0]).2.W = s.W.set (j * n + b) y ∧ ((s.dwrite n (j : Int) (b : Int) [0]).1 = 0 → y = 0) ∧ (s.W.getD (j * n + b) 0 = 0 → y = 0) := by
  have hz : bAndn .u32 0 (s.W.getD (j * n + b) 0) = 0 := andn_zero (getD_in hs _)
  have hv : ∀ i, i < ([0] : List Int).length → bAndn .u32 (([0] : List Int).getD i 0) (s.W.getD (j * n + b + i) 0) = 0 := fun i hi => by
    have : i = 0 := by simpa using hi
    subst this
    exact hz
  rw [dwrite_arm hD hj (by simp only [List.length_cons, List.length_nil]; omega) hjn hv]
  unfold wrL
  by_cases hc : s.W.getD (j * n + b) 0 = 0
  · rw [if_pos hc]
    refine ⟨0, ?_, fun _ => rfl, fun _ => rfl⟩
    have hlt : j * n + b < s.W.length := by omega
    show s.W = _
    apply List.ext_getElem?
    intro i
    rw [List.getElem?_set]
    split
    · rename_i h
      subst h
      rw [getD_some 0 hlt, hc]
    · rfl
  · rw [if_neg hc]
    obtain ⟨⟨y, p1⟩, p2⟩ := prog_arm hD (a := j * n + b) (x := 0) (by omega) hz
    by_cases hp : (s.prog ((j * n + b : Nat) : Int) 0).1 = 0
    · rw [if_neg (by simpa using hp)]
      exact ⟨0, (p2 hp).2, fun _ => rfl, fun _ => rfl⟩
    · rw [if_pos hp]
      exact ⟨y, p1, fun h => absurd h hp, fun h => absurd h hc⟩

end Go.Proofs.Ytnlclchlnngdnaa.Pure
