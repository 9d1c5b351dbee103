/- Flash: what the code's flash and the document's flash do, as one plain machine. -/
import Derived.Test.YtkoidgjgdhpdnaaQFlash0
namespace Go.Proofs.Ytkoidgjgdhpdnaa.Pure
open Go Go.Proofs.Ytkoidgjgdhpdnaa.Va
set_option linter.unusedVariables false
set_option linter.unusedSimpArgs false

/-- A flash: writes, no power?, the fuse, words, wear, masks. -/
structure Fl where
  C : Int
  D : Bool
  A : Int
  W : List Int
  V : List Int
  M : List Int
/-- The fuse behind a write that was not torn. -/
def burn (A : Int) : Int := if A < 0 then A else A - 1
/-- A Program. -/
def Fl.prog (s : Fl) (a x : Int) : Int × Fl :=
  if s.D then (10, s) else if a < 0 ∨ a ≥ s.W.length then (3, s) else if bAndn .u32 x (s.W.getD a.toNat 0) ≠ 0 then (11, s) else
  if s.A = 0 then (10, { s with C := w64 (s.C + 1), D := true, A := -1, W := s.W.set a.toNat (bAndn .u32 (s.W.getD a.toNat 0) (bAndn .u32 (fz s.M 0) x)) })
  else (0, { s with C := w64 (s.C + 1), A := burn s.A, W := s.W.set a.toNat x })
/-- An Erase of a sector of n words. -/
def Fl.erase (n : Nat) (s : Fl) (k : Int) : Int × Fl :=
  if s.D then (10, s) else if k < 0 ∨ k ≥ s.V.length then (3, s) else
  if s.A = 0 then (10, { s with C := w64 (s.C + 1), D := true, A := -1, W := upd s.W (k.toNat * n) n (fun i w => bOr .u32 w (fz s.M i)), V := s.V.set k.toNat (w64 (s.V.getD k.toNat 0 + 1)) })
  else (0, { s with C := w64 (s.C + 1), A := burn s.A, W := upd s.W (k.toNat * n) n (fun _ _ => 4294967295), V := s.V.set k.toNat (w64 (s.V.getD k.toNat 0 + 1)) })
/-- A Read. -/
def Fl.read (s : Fl) (a : Int) : Int × Int := if s.D then (0, 10) else if a < 0 ∨ a ≥ s.W.length then (0, 3) else (s.W.getD a.toNat 0, 0)

/-- What always holds of a flash whose sectors have n words. -/
structure FlOK (n : Nat) (s : Fl) : Prop where
  n1 : 1 ≤ n
  n2 : n ≤ 1024
  vs : s.V.length ≤ 512
  ws : s.W.length = s.V.length * n
  w : Words s.W
  m : Words s.M
  ml : s.M.length ≤ 200
  a : InR .i64 s.A

theorem mul_le {a b n m : Nat} (h1 : a ≤ n) (h2 : b ≤ m) : a * b ≤ n * m := Nat.mul_le_mul h1 h2
theorem FlOK.wl {n : Nat} {s : Fl} (h : FlOK n s) : s.W.length ≤ 524288 := by rw [h.ws]; exact mul_le h.vs h.n2
theorem FlOK.w64w {n : Nat} {s : Fl} (h : FlOK n s) : w64 ((s.V.length : Int) * (n : Int)) = (s.W.length : Int) := by
  have := h.wl
  rw [show (s.V.length : Int) * (n : Int) = ((s.V.length * n : Nat) : Int) by rw [Int.natCast_mul], ← h.ws, w64_of (by omega) (by omega)]
theorem flash_mask0_eq (n C : Int) (D : Bool) (A : Int) (W V M : List Int) : flash_fuse_mask_v2.c 0 n C D A W V M = some (fz M 0) := flash_fuse_mask_v2_eq n C D A W V M 0
theorem ref07_mask0_eq (n C : Int) (D : Bool) (A : Int) (W V M : List Int) : ref07_Flash_mask_v2.c 0 n C D A W V M = some (fz M 0) := flash_fuse_mask_v2_eq n C D A W V M 0

section
variable {n : Nat} {s : Fl} (h : FlOK n s)
include h

theorem flash_words_eq : flash_Flash_words_v2.c (n : Int) s.C s.D s.A s.W s.V s.M = some (s.W.length : Int) := by
  simp only [flash_Flash_words_v2.c, flash_Flash_words_v2.t, flash_Flash_Size_v2.c, flash_Flash_Size_v2.t, Tw.run_opt, Tw.run_ret, Option.bind_some, h.w64w]
omit h in
theorem flash_may_eq (i m : Int) (n' C : Int) (D : Bool) (A : Int) (W V M : List Int) : flash_Flash_may_v2.c i m n' C D A W V M = some (if D then 10 else if i < 0 ∨ i ≥ m then 3 else 0) := by
  simp only [flash_Flash_may_v2.c, flash_Flash_may_v2.t]
  cases D
  · rw [bb_neg rfl]
    by_cases h1 : i < 0
    · rw [bb_pos (decide_eq_true h1)]
      simp [h1, Tw.run_ret]
    · rw [bb_neg (decide_eq_false h1)]
      by_cases h2 : i ≥ m
      · rw [bb_pos (decide_eq_true h2)]
        simp [h2, Tw.run_ret]
      · rw [bb_neg (decide_eq_false h2)]
        simp [h1, h2, Tw.run_ret]
  · rw [bb_pos rfl]
    simp [Tw.run_ret]
theorem flash_Read_eq (a : Int) : flash_Flash_Read_v2.c a (n : Int) s.C s.D s.A s.W s.V s.M = some (s.read a) := by
  simp only [flash_Flash_Read_v2.c, flash_Flash_Read_v2.t]
  rw [opt_some (flash_words_eq h), opt_some (flash_may_eq ..)]
  unfold Fl.read
  by_cases hd : s.D = true
  · rw [if_pos hd, if_pos hd, bb_pos (by first | rfl | decide), Tw.run_ret]
  rw [if_neg hd, if_neg hd]
  by_cases ha : a < 0 ∨ a ≥ (s.W.length : Int)
  · rw [if_pos ha, if_pos ha, bb_pos (by first | rfl | decide), Tw.run_ret]
  · rw [if_neg ha, if_neg ha, bb_neg (by first | rfl | decide), dd_pos (by omega), opt_some (word_some (by omega)), Tw.run_ret]
omit h in
theorem ref07_Read_eq (a : Int) : ref07_Flash_Read_v2.c a (n : Int) s.C s.D s.A s.W s.V s.M = some (s.read a) := by
  simp only [ref07_Flash_Read_v2.c, ref07_Flash_Read_v2.t]
  unfold Fl.read
  by_cases hd : s.D = true
  · rw [if_pos hd, bb_pos hd, Tw.run_ret]
  rw [if_neg hd, bb_neg (by simpa using hd)]
  by_cases h1 : a < 0
  · rw [if_pos (Or.inl h1), bb_pos (decide_eq_true h1), Tw.run_ret]
  rw [bb_neg (decide_eq_false h1)]
  by_cases h2 : a ≥ (s.W.length : Int)
  · rw [if_pos (Or.inr h2), bb_pos (decide_eq_true h2), Tw.run_ret]
  rw [bb_neg (decide_eq_false h2), if_neg (by omega), dd_pos (by omega), opt_some (word_some (by omega)), Tw.run_ret]

theorem flash_write_eq (C : Int) (D : Bool) (W V M : List Int) : flash_Flash_write_v2.c (n : Int) C D s.A W V M = some (if s.A = 0 then (true, w64 (C + 1), true, -1) else (false, w64 (C + 1), false, burn s.A)) := by
  have ha := h.a.i64
  simp only [flash_Flash_write_v2.c, flash_Flash_write_v2.t, flash_fuse_blows_v2.c, flash_fuse_blows_v2.t, Tw.run_opt]
  by_cases h0 : s.A = 0
  · rw [h0]; rfl
  · rw [if_neg h0]
    unfold burn
    by_cases h1 : s.A < 0
    · rw [bb_pos (decide_eq_true h1), if_pos h1]; rfl
    · rw [bb_neg (decide_eq_false h1), if_neg h1, w64_of (n := s.A - 1) (by omega) (by omega)]
      simp only [Tw.run_ret, Option.bind_some]
      rw [decide_eq_false (by omega)]
theorem ref07_torn_eq (C : Int) (W V M : List Int) : ref07_Flash_torn_v2.c (n : Int) C false s.A W V M = some (if s.A = 0 then (true, w64 (C + 1), true, -1) else (false, w64 (C + 1), false, burn s.A)) := by
  have ha := h.a.i64
  simp only [ref07_Flash_torn_v2.c, ref07_Flash_torn_v2.t]
  by_cases h0 : s.A = 0
  · rw [h0]; rfl
  · rw [if_neg h0, bb_neg (beq_eq_false_iff_ne.2 h0)]
    unfold burn
    by_cases h1 : s.A < 0
    · rw [bb_neg (decide_eq_false (by omega)), if_pos h1, Tw.run_ret]
    · rw [bb_pos (decide_eq_true (by omega)), if_neg h1, w64_of (n := s.A - 1) (by omega) (by omega), Tw.run_ret]

theorem flash_Program_eq (a x : Int) (hx : InR .u32 x) : flash_Flash_Program_v2.c a x (n : Int) s.C s.D s.A s.W s.V s.M = some ((s.prog a x).1, (s.prog a x).2.C, (s.prog a x).2.D, (s.prog a x).2.A, (s.prog a x).2.W) := by
  simp only [flash_Flash_Program_v2.c, flash_Flash_Program_v2.t]
  rw [opt_some (flash_words_eq h), opt_some (flash_may_eq ..)]
  unfold Fl.prog
  by_cases hd : s.D = true
  · rw [if_pos hd, if_pos hd, bb_pos (by first | rfl | decide), Tw.run_ret]
  rw [if_neg hd, if_neg hd]
  by_cases ha : a < 0 ∨ a ≥ (s.W.length : Int)
  · rw [if_pos ha, if_pos ha, bb_pos (by first | rfl | decide), Tw.run_ret]
  rw [if_neg ha, if_neg ha, bb_neg (by first | rfl | decide), dd_pos (by omega)]
  have hs := word_some (w := s.W) (i := a.toNat) (by omega)
  rw [opt_some hs]
  simp only [word_Within.c, word_Within.t, Tw.run_opt, Tw.run_ret, Option.bind_some]
  by_cases hb : bAndn .u32 x (s.W.getD a.toNat 0) ≠ 0
  · rw [if_pos hb, bb_pos (by rw [beq_eq_false_iff_ne.2 hb]; rfl), Tw.run_ret]
  have hb' : bAndn .u32 x (s.W.getD a.toNat 0) = 0 := by simpa using hb
  rw [if_neg hb, bb_neg (by rw [hb']; rfl), opt_some (flash_write_eq h ..)]
  by_cases h0 : s.A = 0
  · rw [if_pos h0, if_pos h0, bb_pos (by first | rfl | decide), dd_pos (by omega), opt_some hs, opt_some (flash_mask0_eq ..)]
    simp only [word_Torn.c, word_Torn.t, Tw.run_opt, Tw.run_ret, Option.bind_some]
    rw [dd_pos (by omega), opt_some hs, Tw.run_ret]
  · rw [if_neg h0, if_neg h0, bb_neg (by first | rfl | decide), dd_pos (by omega), opt_some hs, Tw.run_ret]
    have : s.D = false := by simpa using hd
    rw [this]
theorem ref07_Program_eq (a x : Int) (hx : InR .u32 x) : ref07_Flash_Program_v2.c a x (n : Int) s.C s.D s.A s.W s.V s.M = some ((s.prog a x).1, (s.prog a x).2.C, (s.prog a x).2.D, (s.prog a x).2.A, (s.prog a x).2.W) := by
  simp only [ref07_Flash_Program_v2.c, ref07_Flash_Program_v2.t]
  rw [opt_some (ref07_Read_eq a)]
  unfold Fl.prog Fl.read
  by_cases hd : s.D = true
  · rw [if_pos hd, if_pos hd, bb_pos (by first | rfl | decide), Tw.run_ret]
  have hd' : s.D = false := by simpa using hd
  rw [if_neg hd, if_neg hd]
  by_cases ha : a < 0 ∨ a ≥ (s.W.length : Int)
  · rw [if_pos ha, if_pos ha, bb_pos (by first | rfl | decide), Tw.run_ret]
  rw [if_neg ha, if_neg ha, bb_neg (by first | rfl | decide)]
  have hs := word_some (w := s.W) (i := a.toNat) (by omega)
  have hw := word_in h.w a.toNat
  rw [opt_some (bits0_eq hx hw)]
  by_cases hb : bAndn .u32 x (s.W.getD a.toNat 0) ≠ 0
  · rw [if_pos hb, bb_pos (by simpa using hb), Tw.run_ret]
  have hb' : bAndn .u32 x (s.W.getD a.toNat 0) = 0 := by simpa using hb
  rw [if_neg hb, bb_neg (by rw [hb']; rfl), hd', opt_some (ref07_torn_eq h ..)]
  by_cases h0 : s.A = 0
  · rw [if_pos h0, if_pos h0, bb_pos (by first | rfl | decide), opt_some (ref07_mask0_eq ..), opt_some (bits1_eq hw hx (fz_in h.m 0)), dd_pos (by omega), opt_some hs, Tw.run_ret]
  · rw [if_neg h0, if_neg h0, bb_neg (by first | rfl | decide), dd_pos (by omega), opt_some hs, Tw.run_ret]

end

/-- The words of a sector that is erased. -/
def raise (b : Bool) (M : List Int) (i : Nat) (w : Int) : Int := if b then bOr .u32 w (fz M i) else 4294967295
theorem at_of {n : Nat} {s : Fl} (h : FlOK n s) {k : Int} (h0 : 0 ≤ k) (h1 : k < s.V.length) : ∃ j : Nat, k = j ∧ j * n + n ≤ s.W.length ∧ w64 (k * (n : Int)) = ((j * n : Nat) : Int) ∧ j < s.V.length := by
  refine ⟨k.toNat, by omega, ?_, ?_, by omega⟩
  · have : (k.toNat + 1) * n ≤ s.V.length * n := Nat.mul_le_mul_right _ (by omega)
    rw [h.ws]
    rw [Nat.add_mul] at this
    omega
  · have e : k * (n : Int) = ((k.toNat * n : Nat) : Int) := by rw [Int.natCast_mul]; congr 1; omega
    have : k.toNat * n ≤ 512 * 1024 := mul_le (by have := h.vs; omega) h.n2
    rw [e, w64_of (by omega) (by omega)]
theorem flash_L8_eq {n : Nat} {s : Fl} (h : FlOK n s) (b : Bool) (j : Nat) (hj : j * n + n ≤ s.W.length) (C : Int) (D : Bool) (A : Int) (V : List Int) (hM : Words s.M) :
    flash_Flash_Erase_v2.L8 b 0 (j * n) n (n : Int) C D A s.W V s.M = some (upd s.W (j * n) n (raise b s.M)) := by
  have hn := h.n2
  unfold flash_Flash_Erase_v2.L8
  refine Lp_upd _ s.W (j * n) n (raise b s.M) hj hn (fun i U x hi hl hs hx => ?_) (fun U hl => ?_)
  · have hw : InR .u32 x := by rw [hx]; exact word_in h.w _
    have e : w64 ((i : Int) + 1) = ((i + 1 : Nat) : Int) := by rw [w64_of (by omega) (by omega)]; rfl
    simp only [flash_Flash_Erase_v2.l8]
    rw [bb_pos (decide_eq_true (by omega))]
    cases b
    · rw [bb_neg rfl, dd_pos (by omega), Int.toNat_natCast, opt_some hs]
      simp only [word_Raised.c, word_Raised.t, Tw.run_opt, Tw.run_ret, Option.bind_some]
      rw [dd_pos (by omega), opt_some hs, Tw.run_ret, bOr_ones hw, e]
      rfl
    · rw [bb_pos rfl, opt_some (flash_fuse_mask_v2_eq ..), dd_pos (by omega), Int.toNat_natCast, opt_some hs]
      simp only [word_Raised.c, word_Raised.t, Tw.run_opt, Tw.run_ret, Option.bind_some]
      rw [dd_pos (by omega), opt_some hs, Tw.run_ret, e]
      rfl
  · simp only [flash_Flash_Erase_v2.l8]
    rw [bb_neg (decide_eq_false (by omega)), Tw.run_ret]
theorem ref07_L8_eq {n : Nat} {s : Fl} (h : FlOK n s) (b : Bool) (k : Int) (j : Nat) (hk : w64 (k * (n : Int)) = ((j * n : Nat) : Int)) (hj : j * n + n ≤ s.W.length) (C : Int) (D : Bool) (A : Int) (V : List Int) :
    ref07_Flash_Erase_v2.L8 k b 0 (n : Int) C D A s.W V s.M = some (upd s.W (j * n) n (raise b s.M)) := by
  have hn := h.n2
  have hl := h.wl
  unfold ref07_Flash_Erase_v2.L8
  refine Lp_upd _ s.W (j * n) n (raise b s.M) hj hn (fun i U x hi hl hs hx => ?_) (fun U hl => ?_)
  · have hw : InR .u32 x := by rw [hx]; exact word_in h.w _
    have e : w64 ((i : Int) + 1) = ((i + 1 : Nat) : Int) := by rw [w64_of (by omega) (by omega)]; rfl
    have e2 : w64 (w64 (k * (n : Int)) + (i : Int)) = ((j * n + i : Nat) : Int) := by rw [hk, w64_of (by omega) (by omega)]; omega
    simp only [ref07_Flash_Erase_v2.l8, e2]
    rw [bb_pos (decide_eq_true (by omega))]
    cases b
    · rw [bb_neg rfl, dd_pos (by omega), Int.toNat_natCast, opt_some hs, Tw.run_ret, e]
      rfl
    · rw [bb_pos rfl, dd_pos (by omega), Int.toNat_natCast, opt_some hs, opt_some (ref07_mask_v2_eq ..), opt_some (bits2_eq hw (fz_in h.m i)), dd_pos (by omega), opt_some hs, Tw.run_ret, e]
      rfl
  · simp only [ref07_Flash_Erase_v2.l8]
    rw [bb_neg (decide_eq_false (by omega)), Tw.run_ret]

theorem flash_Erase_eq {n : Nat} {s : Fl} (h : FlOK n s) (k : Int) : flash_Flash_Erase_v2.c k (n : Int) s.C s.D s.A s.W s.V s.M =
    some ((s.erase n k).1, (s.erase n k).2.C, (s.erase n k).2.D, (s.erase n k).2.A, (s.erase n k).2.W, (s.erase n k).2.V) := by
  simp only [flash_Flash_Erase_v2.c, flash_Flash_Erase_v2.t, flash_Flash_Size_v2.c, flash_Flash_Size_v2.t]
  rw [opt_some (Tw.run_ret _), opt_some (flash_may_eq ..)]
  unfold Fl.erase
  by_cases hd : s.D = true
  · rw [if_pos hd, if_pos hd, bb_pos (by first | rfl | decide), Tw.run_ret]
  rw [if_neg hd, if_neg hd]
  by_cases ha : k < 0 ∨ k ≥ (s.V.length : Int)
  · rw [if_pos ha, if_pos ha, bb_pos (by first | rfl | decide), Tw.run_ret]
  have hd' : s.D = false := by simpa using hd
  obtain ⟨j, rfl, hj, he, hv⟩ := at_of h (k := k) (by omega) (by omega)
  have hs := word_some (w := s.V) (i := j) hv
  rw [if_neg ha, if_neg ha, bb_neg (by first | rfl | decide), dd_pos (by omega), Int.toNat_natCast, opt_some hs, dd_pos (by omega), opt_some hs, opt_some (flash_write_eq h ..), he,
    dd_pos (by omega), dd_pos (by rw [Int.toNat_natCast]; omega), Int.toNat_natCast, Int.toNat_natCast, Nat.add_zero, Nat.sub_zero, opt_some (flash_L8_eq h _ j hj _ _ _ _ h.m)]
  by_cases h0 : s.A = 0
  · rw [if_pos h0, if_pos h0, bb_pos (by first | rfl | decide), Tw.run_ret]
    rfl
  · rw [if_neg h0, if_neg h0, bb_neg (by first | rfl | decide), Tw.run_ret, hd']
    rfl
theorem ref07_Erase_eq {n : Nat} {s : Fl} (h : FlOK n s) (k : Int) : ref07_Flash_Erase_v2.c k (n : Int) s.C s.D s.A s.W s.V s.M =
    some ((s.erase n k).1, (s.erase n k).2.C, (s.erase n k).2.D, (s.erase n k).2.A, (s.erase n k).2.W, (s.erase n k).2.V) := by
  simp only [ref07_Flash_Erase_v2.c, ref07_Flash_Erase_v2.t]
  unfold Fl.erase
  by_cases hd : s.D = true
  · rw [if_pos hd, bb_pos hd, Tw.run_ret]
  have hd' : s.D = false := by simpa using hd
  rw [if_neg hd, bb_neg hd']
  by_cases h1 : k < 0
  · rw [if_pos (Or.inl h1), bb_pos (decide_eq_true h1), Tw.run_ret]
  rw [bb_neg (decide_eq_false h1)]
  by_cases h2 : k ≥ (s.V.length : Int)
  · rw [if_pos (Or.inr h2), bb_pos (decide_eq_true h2), Tw.run_ret]
  obtain ⟨j, rfl, hj, he, hv⟩ := at_of h (k := k) (by omega) (by omega)
  have hs := word_some (w := s.V) (i := j) hv
  rw [bb_neg (decide_eq_false h2), if_neg (by omega), dd_pos (by omega), Int.toNat_natCast, opt_some hs, dd_pos (by omega), opt_some hs, hd', opt_some (ref07_torn_eq h ..),
    opt_some (ref07_L8_eq h _ _ j he hj _ _ _ _)]
  by_cases h0 : s.A = 0
  · rw [if_pos h0, if_pos h0, bb_pos (by first | rfl | decide), Tw.run_ret]
    rfl
  · rw [if_neg h0, if_neg h0, bb_neg (by first | rfl | decide), Tw.run_ret]
    rfl

end Go.Proofs.Ytkoidgjgdhpdnaa.Pure
