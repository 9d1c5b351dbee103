/- Flash: what the code's flash and the document's flash do, as one plain machine. -/
import Derived.Test.YtmlbioapefgioaaQFlash0
namespace Go.Proofs.Ytmlbioapefgioaa.Pure
open Go Go.Proofs.Ytmlbioapefgioaa.Va
set_option linter.unusedVariables false
set_option linter.unusedSimpArgs false

/-- A flash: writes, no power?, the fuse, words, wear, masks. -/
structure Fl where
  C : Int
  D : Bool
  A : Int
  W : List Int
  V : List Int
  M : List Int
/-- The fuse behind a write that was not torn. -/
def burn (A : Int) : Int := if A < 0 then A else A - 1
/-- A Program. -/
def Fl.prog (s : Fl) (a x : Int) : Int × Fl :=
  if s.D then (10, s) else if a < 0 ∨ a ≥ s.W.length then (3, s) else if bAndn .u32 x (s.W.getD a.toNat 0) ≠ 0 then (11, s) else
  if s.A = 0 then (10, { s with C := w64 (s.C + 1), D := true, A := -1, W := s.W.set a.toNat (bAndn .u32 (s.W.getD a.toNat 0) (bAndn .u32 (fz s.M 0) x)) })
  else (0, { s with C := w64 (s.C + 1), A := burn s.A, W := s.W.set a.toNat x })
/-- An Erase of a sector of n words. -/
def Fl.erase (n : Nat) (s : Fl) (k : Int) : Int × Fl :=
  if s.D then (10, s) else if k < 0 ∨ k ≥ s.V.length then (3, s) else
  if s.A = 0 then (10, { s with C := w64 (s.C + 1), D := true, A := -1, W := upd s.W (k.toNat * n) n (fun i w => bOr .u32 w (fz s.M i)), V := s.V.set k.toNat (w64 (s.V.getD k.toNat 0 + 1)) })
  else (0, { s with C := w64 (s.C + 1), A := burn s.A, W := upd s.W (k.toNat * n) n (fun _ _ => 4294967295), V := s.V.set k.toNat (w64 (s.V.getD k.toNat 0 + 1)) })
/-- A Read. -/
def Fl.read (s : Fl) (a : Int) : Int × Int := if s.D then (0, 10) else if a < 0 ∨ a ≥ s.W.length then (0, 3) else (s.W.getD a.toNat 0, 0)

/-- What always holds of a flash whose sectors have n words. -/
structure FlOK (n : Nat) (s : Fl) : Prop where
  n1 : 1 ≤ n
  n2 : n ≤ 1024
  vs : s.V.length ≤ 512
  ws : s.W.length = s.V.length * n
  w : Words s.W
  m : Words s.M
  ml : s.M.length ≤ 200
  a : InR .i64 s.A

theorem mul_le {a b n m : Nat} (h1 : a ≤ n) (h2 : b ≤ m) : a * b ≤ n * m := Nat.mul_le_mul h1 h2
theorem FlOK.wl {n : Nat} {s : Fl} (h : FlOK n s) : s.W.length ≤ 524288 := by rw [h.ws]; exact mul_le h.vs h.n2
theorem FlOK.w64w {n : Nat} {s : Fl} (h : FlOK n s) : w64 ((s.V.length : Int) * (n : Int)) = (s.W.length : Int) := by
  have := h.wl
  rw [show (s.V.length : Int) * (n : Int) = ((s.V.length * n : Nat) : Int) by rw [Int.natCast_mul], ← h.ws, w64_of (by omega) (by omega)]
theorem burn_eq {A : Int} (h : InR .i64 A) (h0 : A ≠ 0) : (if A < 0 then A else w64 (A - 1)) = burn A := by
  have := h.i64
  unfold burn
  split
  · rfl
  · rw [w64_of (by omega) (by omega)]

theorem flash_mask0_eq (n C : Int) (D : Bool) (A : Int) (W V M : List Int) : flash_fuse_mask.c 0 n C D A W V M = some (fz M 0) := flash_fuse_mask_v2_eq n C D A W V M 0
section
variable {n : Nat} {s : Fl} (h : FlOK n s)
include h

omit h in
theorem flash_may_eq (i m : Int) (n' C : Int) (D : Bool) (A : Int) (W V M : List Int) : flash_Flash_may.c i m n' C D A W V M = some (if D then 10 else if i < 0 ∨ i ≥ m then 3 else 0) := by
  simp only [flash_Flash_may.c, flash_Flash_may.t]
  cases D
  · rw [bb_neg rfl]
    by_cases h1 : i < 0
    · rw [bb_pos (decide_eq_true h1)]
      simp [h1, Tw.run_ret]
    · rw [bb_neg (decide_eq_false h1)]
      by_cases h2 : i ≥ m
      · rw [bb_pos (decide_eq_true h2)]
        simp [h2, Tw.run_ret]
      · rw [bb_neg (decide_eq_false h2)]
        simp [h1, h2, Tw.run_ret]
  · rw [bb_pos rfl]
    simp [Tw.run_ret]
theorem flash_write_eq (C : Int) (D : Bool) (W V M : List Int) : flash_Flash_write.c (n : Int) C D s.A W V M = some (if s.A = 0 then (true, w64 (C + 1), true, -1) else (false, w64 (C + 1), false, burn s.A)) := by
  have ha := h.a.i64
  simp only [flash_Flash_write.c, flash_Flash_write.t, flash_fuse_blows.c, flash_fuse_blows.t, Tw.run_opt]
  by_cases h0 : s.A = 0
  · rw [h0]; rfl
  · rw [if_neg h0]
    unfold burn
    by_cases h1 : s.A < 0
    · rw [bb_pos (decide_eq_true h1), if_pos h1]; rfl
    · rw [bb_neg (decide_eq_false h1), if_neg h1, w64_of (n := s.A - 1) (by omega) (by omega)]
      simp only [Tw.run_ret, Option.bind_some]
      rw [decide_eq_false (by omega)]
end

/-- The words of a sector that is erased. -/
def raise (b : Bool) (M : List Int) (i : Nat) (w : Int) : Int := if b then bOr .u32 w (fz M i) else 4294967295
theorem at_of {n : Nat} {s : Fl} (h : FlOK n s) {k : Int} (h0 : 0 ≤ k) (h1 : k < s.V.length) : ∃ j : Nat, k = j ∧ j * n + n ≤ s.W.length ∧ w64 (k * (n : Int)) = ((j * n : Nat) : Int) ∧ j < s.V.length := by
  refine ⟨k.toNat, by omega, ?_, ?_, by omega⟩
  · have : (k.toNat + 1) * n ≤ s.V.length * n := Nat.mul_le_mul_right _ (by omega)
    rw [h.ws]
    rw [Nat.add_mul] at this
    omega
  · have e : k * (n : Int) = ((k.toNat * n : Nat) : Int) := by rw [Int.natCast_mul]; congr 1; omega
    have : k.toNat * n ≤ 512 * 1024 := mul_le (by have := h.vs; omega) h.n2
    rw [e, w64_of (by omega) (by omega)]
theorem flash_L8_eq {n : Nat} {s : Fl} (h : FlOK n s) (b : Bool) (j : Nat) (hj : j * n + n ≤ s.W.length) (C : Int) (D : Bool) (A : Int) (V : List Int) (hM : Words s.M) :
    flash_Flash_Erase.L8 b 0 (j * n) n (n : Int) C D A s.W V s.M = some (upd s.W (j * n) n (raise b s.M)) := by
  have hn := h.n2
  unfold flash_Flash_Erase.L8
  refine Lp_upd _ s.W (j * n) n (raise b s.M) hj hn (fun i U x hi hl hs hx => ?_) (fun U hl => ?_)
  · have hw : InR .u32 x := by rw [hx]; exact word_in h.w _
    have e : w64 ((i : Int) + 1) = ((i + 1 : Nat) : Int) := by rw [w64_of (by omega) (by omega)]; rfl
    simp only [flash_Flash_Erase.l8]
    rw [bb_pos (decide_eq_true (by omega))]
    cases b
    · rw [bb_neg rfl, dd_pos (by omega), Int.toNat_natCast, opt_some hs]
      simp only [word_Raised.c, word_Raised.t, Tw.run_opt, Tw.run_ret, Option.bind_some]
      rw [dd_pos (by omega), opt_some hs, Tw.run_ret, bOr_ones hw, e]
      rfl
    · rw [bb_pos rfl, opt_some (flash_fuse_mask_v2_eq ..), dd_pos (by omega), Int.toNat_natCast, opt_some hs]
      simp only [word_Raised.c, word_Raised.t, Tw.run_opt, Tw.run_ret, Option.bind_some]
      rw [dd_pos (by omega), opt_some hs, Tw.run_ret, e]
      rfl
  · simp only [flash_Flash_Erase.l8]
    rw [bb_neg (decide_eq_false (by omega)), Tw.run_ret]
theorem flash_Erase_eq {n : Nat} {s : Fl} (h : FlOK n s) (k : Int) : flash_Flash_Erase.c k (n : Int) s.C s.D s.A s.W s.V s.M =
    some ((s.erase n k).1, (s.erase n k).2.C, (s.erase n k).2.D, (s.erase n k).2.A, (s.erase n k).2.W, (s.erase n k).2.V) := by
  simp only [flash_Flash_Erase.c, flash_Flash_Erase.t, flash_Flash_Size.c, flash_Flash_Size.t]
  rw [opt_some (Tw.run_ret _), opt_some (flash_may_eq ..)]
  unfold Fl.erase
  by_cases hd : s.D = true
  · rw [if_pos hd, if_pos hd, bb_pos (by first | rfl | decide), Tw.run_ret]
  rw [if_neg hd, if_neg hd]
  by_cases ha : k < 0 ∨ k ≥ (s.V.length : Int)
  · rw [if_pos ha, if_pos ha, bb_pos (by first | rfl | decide), Tw.run_ret]
  have hd' : s.D = false := by simpa using hd
  obtain ⟨j, rfl, hj, he, hv⟩ := at_of h (k := k) (by omega) (by omega)
  have hs := word_some (w := s.V) (i := j) hv
  rw [if_neg ha, if_neg ha, bb_neg (by first | rfl | decide), dd_pos (by omega), Int.toNat_natCast, opt_some hs, dd_pos (by omega), opt_some hs, opt_some (flash_write_eq h ..), he,
    dd_pos (by omega), dd_pos (by rw [Int.toNat_natCast]; omega), Int.toNat_natCast, Int.toNat_natCast, Nat.add_zero, Nat.sub_zero, opt_some (flash_L8_eq h _ j hj _ _ _ _ h.m)]
  by_cases h0 : s.A = 0
  · rw [if_pos h0, if_pos h0, bb_pos (by first | rfl | decide), Tw.run_ret]
    rfl
  · rw [if_neg h0, if_neg h0, bb_neg (by first | rfl | decide), Tw.run_ret, hd']
    rfl
end Go.Proofs.Ytmlbioapefgioaa.Pure
