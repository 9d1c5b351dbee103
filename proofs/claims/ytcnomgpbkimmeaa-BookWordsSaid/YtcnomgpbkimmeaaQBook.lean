/- Layer 34: a state's words, and the state of words. (printed by genk.py and mkmode.py) -/
import Derived.Test.YtcnomgpbkimmeaaQMode
import Derived.Test.YtcnomgpbkimmeaaQFrame0
import Derived.Test.YtcnomgpbkimmeaaQWord
import Derived.Test.YtcnomgpbkimmeaaFlaw34
import Derived.Test.YtcnomgpbkimmeaaFslices
namespace Go.Proofs.Ytcnomgpbkimmeaa.Pure
open Go Go.Proofs.Ytcnomgpbkimmeaa.Va
set_option linter.unusedVariables false
set_option linter.unusedSimpArgs false

theorem bOr64_comm (a b : Int) : bOr .i64 a b = bOr .i64 b a := by
  unfold bOr
  rw [BitVec.or_comm]
/-- What numbers a right state has. -/
structure Bnd (s : SA) : Prop where
  m : 0 ≤ s.m ∧ s.m ≤ 4
  a : 0 ≤ s.a ∧ s.a ≤ 1
  l : 0 ≤ s.l ∧ s.l ≤ 9
  t : 0 ≤ s.t ∧ s.t ≤ 131072
  r : 0 ≤ s.r ∧ s.r ≤ 127
  g : 0 ≤ s.g ∧ s.g ≤ 1073741823
  r2 : -1 ≤ s.r2 ∧ s.r2 ≤ 127
  g2 : 0 ≤ s.g2 ∧ s.g2 ≤ 1073741823
  c0 : (0 ≤ s.c0.x0 ∧ s.c0.x0 ≤ 65535) ∧ (0 ≤ s.c0.x1 ∧ s.c0.x1 ≤ 65535) ∧ (0 ≤ s.c0.x2 ∧ s.c0.x2 ≤ 131072)
  c1 : (0 ≤ s.c1.x0 ∧ s.c1.x0 ≤ 65535) ∧ (0 ≤ s.c1.x1 ∧ s.c1.x1 ≤ 65535) ∧ (0 ≤ s.c1.x2 ∧ s.c1.x2 ≤ 131072)
def CB (c : Cd) : Prop := (0 ≤ c.x0 ∧ c.x0 ≤ 65535) ∧ (0 ≤ c.x1 ∧ c.x1 ≤ 65535) ∧ (0 ≤ c.x2 ∧ c.x2 ≤ 131072)
theorem there_b {c : Cd} (h : ThereC c) : CB c := by unfold ThereC at h; unfold CB; omega
theorem none_b {c : Cd} (h : NoneC c) : CB c := by unfold NoneC at h; unfold CB; omega
theorem lone_b {s : SA} (h : Lone s) : (-1 ≤ s.r2 ∧ s.r2 ≤ 127) ∧ (0 ≤ s.g2 ∧ s.g2 ≤ 1073741823) := by unfold Lone at h; omega
theorem both_b {s : SA} (h : Both s) : (-1 ≤ s.r2 ∧ s.r2 ≤ 127) ∧ (0 ≤ s.g2 ∧ s.g2 ≤ 1073741823) := by unfold Both at h; omega
theorem body_b {s : SA} {c : Cd} (h : BodyS s c) : (0 ≤ s.m ∧ s.m ≤ 4) ∧ (0 ≤ s.l ∧ s.l ≤ 9) ∧ (0 ≤ s.t ∧ s.t ≤ 131072) ∧ ((-1 ≤ s.r2 ∧ s.r2 ≤ 127) ∧ (0 ≤ s.g2 ∧ s.g2 ≤ 1073741823)) ∧ CB c := by
  rcases h with h | h | h | h | h
  · obtain ⟨h1, h2, h3, h4, h5⟩ := h
    refine ⟨by omega, by omega, by omega, lone_b h4, ?_⟩
    rcases h5 with h5 | h5
    · exact there_b h5.2
    · exact none_b h5.2
  · obtain ⟨h1, h2, h3, h4, h5, h6⟩ := h
    exact ⟨by omega, by omega, by omega, lone_b h6, none_b h5⟩
  · obtain ⟨h1, h2, h3, h4, h5, h6⟩ := h
    exact ⟨by omega, by omega, by omega, lone_b h6, there_b h5⟩
  · obtain ⟨h1, h2, h3, h4, h5, h6⟩ := h
    exact ⟨by omega, by omega, by omega, both_b h6, there_b h5⟩
  · obtain ⟨h1, h2, h3, h4, h5, h6⟩ := h
    exact ⟨by omega, by omega, by omega, both_b h6, there_b h5⟩
theorem bnd_of {s : SA} (h : RightS s) : Bnd s := by
  obtain ⟨h1, h2, h3, h4, h5⟩ := h
  obtain ⟨b1, b2, b3, b4, b5⟩ := body_b h5
  have hc := there_b h2
  have cc : CB s.c0 ∧ CB s.c1 := by
    rcases h1 with ha | ha
    · rw [show s.cur = s.c0 from if_neg (by omega)] at hc
      rw [show s.oth = s.c1 from if_neg (by omega)] at b5
      exact ⟨hc, b5⟩
    · rw [show s.cur = s.c1 from if_pos ha] at hc
      rw [show s.oth = s.c0 from if_pos ha] at b5
      exact ⟨b5, hc⟩
  exact ⟨b1, by omega, b2, b3, h3, by omega, b4.1, b4.2, cc.1, cc.2⟩
def fallN (f : Bool) : Int := if f then 16777216 else 0

/-- A state's words. -/
def layB (s : SA) : List Int := [s.m + 256 * s.a + 65536 * s.l + fallN s.f, s.t, s.r, s.g, s.r2 + 1, s.g2, s.c0.x0 + 65536 * s.c0.x1, s.c0.x2, s.c0.x3, s.c0.x4, s.c0.x5, s.c0.x6, s.c0.x7, s.c0.x8, s.c0.x9, s.c0.x10, s.c1.x0 + 65536 * s.c1.x1, s.c1.x2, s.c1.x3, s.c1.x4, s.c1.x5, s.c1.x6, s.c1.x7, s.c1.x8, s.c1.x9, s.c1.x10]
theorem head_eq {a b : Int} (ha : 0 ≤ a ∧ a ≤ 65535) (hb : 0 ≤ b ∧ b ≤ 65535) : w32 (bOr .i64 a (bShl .i64 b 16)) = a + 65536 * b := by
  rw [show (16 : Int) = ((16 : Nat) : Int) from rfl, bShl64 b 16 (by omega) (by omega) (by omega), bOr64_comm, bOr64_add 16 (by omega) (by omega) (by omega) (by omega) (by omega), w32_of (by omega) (by omega)]
  omega
theorem first_eq {m a l : Int} (hm : 0 ≤ m ∧ m ≤ 255) (ha : 0 ≤ a ∧ a ≤ 255) (hl : 0 ≤ l ∧ l ≤ 255) : w32 (bOr .i64 (bOr .i64 m (bShl .i64 a 8)) (bShl .i64 l 16)) = m + 256 * a + 65536 * l := by
  have s1 : bOr .i64 m (a * 2 ^ 8) = m + 256 * a := by
    rw [bOr64_comm, bOr64_add 8 (by omega) (by omega) (by omega) (by omega) (by omega)]
    omega
  have s2 : bOr .i64 (m + 256 * a) (l * 2 ^ 16) = m + 256 * a + 65536 * l := by
    rw [bOr64_comm, bOr64_add 16 (by omega) (by omega) (by omega) (by omega) (by omega)]
    omega
  rw [show (16 : Int) = ((16 : Nat) : Int) from rfl, show (8 : Int) = ((8 : Nat) : Int) from rfl, bShl64 a 8 (by omega) (by omega) (by omega), bShl64 l 16 (by omega) (by omega) (by omega), s1, s2, w32_of (by omega) (by omega)]
theorem book_L10_eq {s : SA} (hb : Bnd s) (h0 h1 h2 h3 h4 h5 : Int) : book_Lay.L10 s.c0.x0 s.c0.x1 s.c0.x2 s.c0.x3 s.c0.x4 s.c0.x5 s.c0.x6 s.c0.x7 s.c0.x8 s.c0.x9 s.c0.x10 s.c1.x0 s.c1.x1 s.c1.x2 s.c1.x3 s.c1.x4 s.c1.x5 s.c1.x6 s.c1.x7 s.c1.x8 s.c1.x9 s.c1.x10 0 [h0, h1, h2, h3, h4, h5, 0, 0, 0, 0, 0, 0, 0, 0, 0, 0, 0, 0, 0, 0, 0, 0, 0, 0, 0, 0] = some [h0, h1, h2, h3, h4, h5, s.c0.x0 + 65536 * s.c0.x1, s.c0.x2, s.c0.x3, s.c0.x4, s.c0.x5, s.c0.x6, s.c0.x7, s.c0.x8, s.c0.x9, s.c0.x10, s.c1.x0 + 65536 * s.c1.x1, s.c1.x2, s.c1.x3, s.c1.x4, s.c1.x5, s.c1.x6, s.c1.x7, s.c1.x8, s.c1.x9, s.c1.x10] := by
  have e0 := head_eq hb.c0.1 hb.c0.2.1
  have e1 := head_eq hb.c1.1 hb.c1.2.1
  have t0 : w32 s.c0.x2 = s.c0.x2 := by have := hb.c0; exact w32_of (by omega) (by omega)
  have t1 : w32 s.c1.x2 = s.c1.x2 := by have := hb.c1; exact w32_of (by omega) (by omega)
  unfold book_Lay.L10
  have s0 : (book_Lay.l10 s.c0.x0 s.c0.x1 s.c0.x2 s.c0.x3 s.c0.x4 s.c0.x5 s.c0.x6 s.c0.x7 s.c0.x8 s.c0.x9 s.c0.x10 s.c1.x0 s.c1.x1 s.c1.x2 s.c1.x3 s.c1.x4 s.c1.x5 s.c1.x6 s.c1.x7 s.c1.x8 s.c1.x9 s.c1.x10 0 [h0, h1, h2, h3, h4, h5, 0, 0, 0, 0, 0, 0, 0, 0, 0, 0, 0, 0, 0, 0, 0, 0, 0, 0, 0, 0]).run = some (.inl (1, [h0, h1, h2, h3, h4, h5, s.c0.x0 + 65536 * s.c0.x1, s.c0.x2, s.c0.x3, s.c0.x4, s.c0.x5, s.c0.x6, s.c0.x7, s.c0.x8, s.c0.x9, s.c0.x10, 0, 0, 0, 0, 0, 0, 0, 0, 0, 0])) := by
    simp only [book_Lay.l10]
    rw [bb_pos (by rfl), dd_neg (by decide), dd_pos (by rfl), dd_pos ⟨by decide, by exact (by decide : (6 : Int) ≤ 26)⟩, dd_pos ⟨by decide, by exact (by decide : (10 : Int) ≤ 20)⟩, opt_some (x := 0) (by rfl), opt_some (x := 0) (by rfl), dd_pos ⟨by rfl, by rfl, by exact (by decide : 16 ≤ 26)⟩, Tw.run_ret, e0, t0]
    rfl
  have s1 : (book_Lay.l10 s.c0.x0 s.c0.x1 s.c0.x2 s.c0.x3 s.c0.x4 s.c0.x5 s.c0.x6 s.c0.x7 s.c0.x8 s.c0.x9 s.c0.x10 s.c1.x0 s.c1.x1 s.c1.x2 s.c1.x3 s.c1.x4 s.c1.x5 s.c1.x6 s.c1.x7 s.c1.x8 s.c1.x9 s.c1.x10 1 [h0, h1, h2, h3, h4, h5, s.c0.x0 + 65536 * s.c0.x1, s.c0.x2, s.c0.x3, s.c0.x4, s.c0.x5, s.c0.x6, s.c0.x7, s.c0.x8, s.c0.x9, s.c0.x10, 0, 0, 0, 0, 0, 0, 0, 0, 0, 0]).run = some (.inl (2, [h0, h1, h2, h3, h4, h5, s.c0.x0 + 65536 * s.c0.x1, s.c0.x2, s.c0.x3, s.c0.x4, s.c0.x5, s.c0.x6, s.c0.x7, s.c0.x8, s.c0.x9, s.c0.x10, s.c1.x0 + 65536 * s.c1.x1, s.c1.x2, s.c1.x3, s.c1.x4, s.c1.x5, s.c1.x6, s.c1.x7, s.c1.x8, s.c1.x9, s.c1.x10])) := by
    simp only [book_Lay.l10]
    rw [bb_pos (by rfl), dd_pos (by rfl), dd_pos ⟨by decide, by exact (by decide : (16 : Int) ≤ 26)⟩, dd_pos ⟨by decide, by exact (by decide : (10 : Int) ≤ 10)⟩, opt_some (x := 0) (by rfl), opt_some (x := 0) (by rfl), dd_pos ⟨by rfl, by rfl, by exact (by decide : 26 ≤ 26)⟩, Tw.run_ret, e1, t1]
    rfl
  have s2 : (book_Lay.l10 s.c0.x0 s.c0.x1 s.c0.x2 s.c0.x3 s.c0.x4 s.c0.x5 s.c0.x6 s.c0.x7 s.c0.x8 s.c0.x9 s.c0.x10 s.c1.x0 s.c1.x1 s.c1.x2 s.c1.x3 s.c1.x4 s.c1.x5 s.c1.x6 s.c1.x7 s.c1.x8 s.c1.x9 s.c1.x10 2 [h0, h1, h2, h3, h4, h5, s.c0.x0 + 65536 * s.c0.x1, s.c0.x2, s.c0.x3, s.c0.x4, s.c0.x5, s.c0.x6, s.c0.x7, s.c0.x8, s.c0.x9, s.c0.x10, s.c1.x0 + 65536 * s.c1.x1, s.c1.x2, s.c1.x3, s.c1.x4, s.c1.x5, s.c1.x6, s.c1.x7, s.c1.x8, s.c1.x9, s.c1.x10]).run = some (.inr [h0, h1, h2, h3, h4, h5, s.c0.x0 + 65536 * s.c0.x1, s.c0.x2, s.c0.x3, s.c0.x4, s.c0.x5, s.c0.x6, s.c0.x7, s.c0.x8, s.c0.x9, s.c0.x10, s.c1.x0 + 65536 * s.c1.x1, s.c1.x2, s.c1.x3, s.c1.x4, s.c1.x5, s.c1.x6, s.c1.x7, s.c1.x8, s.c1.x9, s.c1.x10]) := by
    simp only [book_Lay.l10]
    rw [bb_neg (by rfl), Tw.run_ret]
  exact (Lp_next s0).trans ((Lp_next s1).trans (Lp_end s2))
theorem book_Lay_eq (s : SA) : book_Lay.c s.m s.a s.l s.f s.t s.c0.x0 s.c0.x1 s.c0.x2 s.c0.x3 s.c0.x4 s.c0.x5 s.c0.x6 s.c0.x7 s.c0.x8 s.c0.x9 s.c0.x10 s.c1.x0 s.c1.x1 s.c1.x2 s.c1.x3 s.c1.x4 s.c1.x5 s.c1.x6 s.c1.x7 s.c1.x8 s.c1.x9 s.c1.x10 s.r s.g s.r2 s.g2 = some (if RightS s then (0, layB s) else (2, [])) := by
  simp only [book_Lay.c, book_Lay.t]
  rw [opt_some (book_Right_eq s)]
  by_cases h : RightS s
  rotate_left
  · rw [decide_eq_false h, bb_pos (by rfl), Tw.run_ret, if_neg h]
  rw [decide_eq_true h, bb_neg (by rfl), if_pos h]
  have hb := bnd_of h
  have b1 := hb.m; have b2 := hb.a; have b3 := hb.l; have b4 := hb.t; have b5 := hb.r; have b6 := hb.g; have b7 := hb.r2; have b8 := hb.g2
  have ef := first_eq (m := s.m) (a := s.a) (l := s.l) (by omega) (by omega) (by omega)
  have et : w32 s.t = s.t := w32_of (by omega) (by omega)
  have er : w32 s.r = s.r := w32_of (by omega) (by omega)
  have eg : w32 s.g = s.g := w32_of (by omega) (by omega)
  have er2 : w32 (w64 (s.r2 + 1)) = s.r2 + 1 := by rw [w64_of (by omega) (by omega), w32_of (by omega) (by omega)]
  have eg2 : w32 s.g2 = s.g2 := w32_of (by omega) (by omega)
  rw [ef, et, er, eg, er2, eg2]
  cases hf : s.f with
  | true =>
    have e5 : bOr .u32 (s.m + 256 * s.a + 65536 * s.l) 16777216 = s.m + 256 * s.a + 65536 * s.l + 16777216 := by
      rw [bOr_comm, bOr_add 24 (by omega) (by omega) (by omega) (by decide) (by omega) (by omega)]
      omega
    rw [bb_pos (by rfl), e5, opt_some (x := layB s) (by unfold layB; rw [hf]; exact book_L10_eq hb ..), Tw.run_ret]
  | false =>
    rw [bb_neg (by rfl), opt_some (x := layB s) (by unfold layB; rw [hf, show s.m + 256 * s.a + 65536 * s.l + fallN false = s.m + 256 * s.a + 65536 * s.l by show _ + 0 = _; omega]; exact book_L10_eq hb ..), Tw.run_ret]

theorem ref34_L11_eq (i : Int) (s : SA) (h : List Int) (hl : h.length ≤ 1000) (c : Cd) : ref34_Lay.L11 i 0 s.m s.a s.l s.f s.t s.c0.x0 s.c0.x1 s.c0.x2 s.c0.x3 s.c0.x4 s.c0.x5 s.c0.x6 s.c0.x7 s.c0.x8 s.c0.x9 s.c0.x10 s.c1.x0 s.c1.x1 s.c1.x2 s.c1.x3 s.c1.x4 s.c1.x5 s.c1.x6 s.c1.x7 s.c1.x8 s.c1.x9 s.c1.x10 s.r s.g s.r2 s.g2 h c.x0 c.x1 c.x2 c.x3 c.x4 c.x5 c.x6 c.x7 c.x8 c.x9 c.x10 = some (h ++ [c.x3, c.x4, c.x5, c.x6, c.x7, c.x8, c.x9, c.x10]) := by
  unfold ref34_Lay.L11
  have s0 : (ref34_Lay.l11 i s.m s.a s.l s.f s.t s.c0.x0 s.c0.x1 s.c0.x2 s.c0.x3 s.c0.x4 s.c0.x5 s.c0.x6 s.c0.x7 s.c0.x8 s.c0.x9 s.c0.x10 s.c1.x0 s.c1.x1 s.c1.x2 s.c1.x3 s.c1.x4 s.c1.x5 s.c1.x6 s.c1.x7 s.c1.x8 s.c1.x9 s.c1.x10 s.r s.g s.r2 s.g2 c.x0 c.x1 c.x2 c.x3 c.x4 c.x5 c.x6 c.x7 c.x8 c.x9 c.x10 0 (h)).run = some (.inl (1, h ++ [c.x3])) := by
    simp only [ref34_Lay.l11]
    rw [bb_pos (by rfl), dd_neg (by decide), dd_neg (by decide), dd_neg (by decide), dd_neg (by decide), dd_neg (by decide), dd_neg (by decide), dd_neg (by decide), dd_pos (by rfl), dd_pos (by simp only [List.length_append, List.length_cons, List.length_nil]; omega), Tw.run_ret]
    rfl
  have s1 : (ref34_Lay.l11 i s.m s.a s.l s.f s.t s.c0.x0 s.c0.x1 s.c0.x2 s.c0.x3 s.c0.x4 s.c0.x5 s.c0.x6 s.c0.x7 s.c0.x8 s.c0.x9 s.c0.x10 s.c1.x0 s.c1.x1 s.c1.x2 s.c1.x3 s.c1.x4 s.c1.x5 s.c1.x6 s.c1.x7 s.c1.x8 s.c1.x9 s.c1.x10 s.r s.g s.r2 s.g2 c.x0 c.x1 c.x2 c.x3 c.x4 c.x5 c.x6 c.x7 c.x8 c.x9 c.x10 1 (h ++ [c.x3])).run = some (.inl (2, h ++ [c.x3] ++ [c.x4])) := by
    simp only [ref34_Lay.l11]
    rw [bb_pos (by rfl), dd_neg (by decide), dd_neg (by decide), dd_neg (by decide), dd_neg (by decide), dd_neg (by decide), dd_neg (by decide), dd_pos (by rfl), dd_pos (by simp only [List.length_append, List.length_cons, List.length_nil]; omega), Tw.run_ret]
    rfl
  have s2 : (ref34_Lay.l11 i s.m s.a s.l s.f s.t s.c0.x0 s.c0.x1 s.c0.x2 s.c0.x3 s.c0.x4 s.c0.x5 s.c0.x6 s.c0.x7 s.c0.x8 s.c0.x9 s.c0.x10 s.c1.x0 s.c1.x1 s.c1.x2 s.c1.x3 s.c1.x4 s.c1.x5 s.c1.x6 s.c1.x7 s.c1.x8 s.c1.x9 s.c1.x10 s.r s.g s.r2 s.g2 c.x0 c.x1 c.x2 c.x3 c.x4 c.x5 c.x6 c.x7 c.x8 c.x9 c.x10 2 (h ++ [c.x3] ++ [c.x4])).run = some (.inl (3, h ++ [c.x3] ++ [c.x4] ++ [c.x5])) := by
    simp only [ref34_Lay.l11]
    rw [bb_pos (by rfl), dd_neg (by decide), dd_neg (by decide), dd_neg (by decide), dd_neg (by decide), dd_neg (by decide), dd_pos (by rfl), dd_pos (by simp only [List.length_append, List.length_cons, List.length_nil]; omega), Tw.run_ret]
    rfl
  have s3 : (ref34_Lay.l11 i s.m s.a s.l s.f s.t s.c0.x0 s.c0.x1 s.c0.x2 s.c0.x3 s.c0.x4 s.c0.x5 s.c0.x6 s.c0.x7 s.c0.x8 s.c0.x9 s.c0.x10 s.c1.x0 s.c1.x1 s.c1.x2 s.c1.x3 s.c1.x4 s.c1.x5 s.c1.x6 s.c1.x7 s.c1.x8 s.c1.x9 s.c1.x10 s.r s.g s.r2 s.g2 c.x0 c.x1 c.x2 c.x3 c.x4 c.x5 c.x6 c.x7 c.x8 c.x9 c.x10 3 (h ++ [c.x3] ++ [c.x4] ++ [c.x5])).run = some (.inl (4, h ++ [c.x3] ++ [c.x4] ++ [c.x5] ++ [c.x6])) := by
    simp only [ref34_Lay.l11]
    rw [bb_pos (by rfl), dd_neg (by decide), dd_neg (by decide), dd_neg (by decide), dd_neg (by decide), dd_pos (by rfl), dd_pos (by simp only [List.length_append, List.length_cons, List.length_nil]; omega), Tw.run_ret]
    rfl
  have s4 : (ref34_Lay.l11 i s.m s.a s.l s.f s.t s.c0.x0 s.c0.x1 s.c0.x2 s.c0.x3 s.c0.x4 s.c0.x5 s.c0.x6 s.c0.x7 s.c0.x8 s.c0.x9 s.c0.x10 s.c1.x0 s.c1.x1 s.c1.x2 s.c1.x3 s.c1.x4 s.c1.x5 s.c1.x6 s.c1.x7 s.c1.x8 s.c1.x9 s.c1.x10 s.r s.g s.r2 s.g2 c.x0 c.x1 c.x2 c.x3 c.x4 c.x5 c.x6 c.x7 c.x8 c.x9 c.x10 4 (h ++ [c.x3] ++ [c.x4] ++ [c.x5] ++ [c.x6])).run = some (.inl (5, h ++ [c.x3] ++ [c.x4] ++ [c.x5] ++ [c.x6] ++ [c.x7])) := by
    simp only [ref34_Lay.l11]
    rw [bb_pos (by rfl), dd_neg (by decide), dd_neg (by decide), dd_neg (by decide), dd_pos (by rfl), dd_pos (by simp only [List.length_append, List.length_cons, List.length_nil]; omega), Tw.run_ret]
    rfl
  have s5 : (ref34_Lay.l11 i s.m s.a s.l s.f s.t s.c0.x0 s.c0.x1 s.c0.x2 s.c0.x3 s.c0.x4 s.c0.x5 s.c0.x6 s.c0.x7 s.c0.x8 s.c0.x9 s.c0.x10 s.c1.x0 s.c1.x1 s.c1.x2 s.c1.x3 s.c1.x4 s.c1.x5 s.c1.x6 s.c1.x7 s.c1.x8 s.c1.x9 s.c1.x10 s.r s.g s.r2 s.g2 c.x0 c.x1 c.x2 c.x3 c.x4 c.x5 c.x6 c.x7 c.x8 c.x9 c.x10 5 (h ++ [c.x3] ++ [c.x4] ++ [c.x5] ++ [c.x6] ++ [c.x7])).run = some (.inl (6, h ++ [c.x3] ++ [c.x4] ++ [c.x5] ++ [c.x6] ++ [c.x7] ++ [c.x8])) := by
    simp only [ref34_Lay.l11]
    rw [bb_pos (by rfl), dd_neg (by decide), dd_neg (by decide), dd_pos (by rfl), dd_pos (by simp only [List.length_append, List.length_cons, List.length_nil]; omega), Tw.run_ret]
    rfl
  have s6 : (ref34_Lay.l11 i s.m s.a s.l s.f s.t s.c0.x0 s.c0.x1 s.c0.x2 s.c0.x3 s.c0.x4 s.c0.x5 s.c0.x6 s.c0.x7 s.c0.x8 s.c0.x9 s.c0.x10 s.c1.x0 s.c1.x1 s.c1.x2 s.c1.x3 s.c1.x4 s.c1.x5 s.c1.x6 s.c1.x7 s.c1.x8 s.c1.x9 s.c1.x10 s.r s.g s.r2 s.g2 c.x0 c.x1 c.x2 c.x3 c.x4 c.x5 c.x6 c.x7 c.x8 c.x9 c.x10 6 (h ++ [c.x3] ++ [c.x4] ++ [c.x5] ++ [c.x6] ++ [c.x7] ++ [c.x8])).run = some (.inl (7, h ++ [c.x3] ++ [c.x4] ++ [c.x5] ++ [c.x6] ++ [c.x7] ++ [c.x8] ++ [c.x9])) := by
    simp only [ref34_Lay.l11]
    rw [bb_pos (by rfl), dd_neg (by decide), dd_pos (by rfl), dd_pos (by simp only [List.length_append, List.length_cons, List.length_nil]; omega), Tw.run_ret]
    rfl
  have s7 : (ref34_Lay.l11 i s.m s.a s.l s.f s.t s.c0.x0 s.c0.x1 s.c0.x2 s.c0.x3 s.c0.x4 s.c0.x5 s.c0.x6 s.c0.x7 s.c0.x8 s.c0.x9 s.c0.x10 s.c1.x0 s.c1.x1 s.c1.x2 s.c1.x3 s.c1.x4 s.c1.x5 s.c1.x6 s.c1.x7 s.c1.x8 s.c1.x9 s.c1.x10 s.r s.g s.r2 s.g2 c.x0 c.x1 c.x2 c.x3 c.x4 c.x5 c.x6 c.x7 c.x8 c.x9 c.x10 7 (h ++ [c.x3] ++ [c.x4] ++ [c.x5] ++ [c.x6] ++ [c.x7] ++ [c.x8] ++ [c.x9])).run = some (.inl (8, h ++ [c.x3] ++ [c.x4] ++ [c.x5] ++ [c.x6] ++ [c.x7] ++ [c.x8] ++ [c.x9] ++ [c.x10])) := by
    simp only [ref34_Lay.l11]
    rw [bb_pos (by rfl), dd_pos (by rfl), dd_pos (by simp only [List.length_append, List.length_cons, List.length_nil]; omega), Tw.run_ret]
    rfl
  have s8 : (ref34_Lay.l11 i s.m s.a s.l s.f s.t s.c0.x0 s.c0.x1 s.c0.x2 s.c0.x3 s.c0.x4 s.c0.x5 s.c0.x6 s.c0.x7 s.c0.x8 s.c0.x9 s.c0.x10 s.c1.x0 s.c1.x1 s.c1.x2 s.c1.x3 s.c1.x4 s.c1.x5 s.c1.x6 s.c1.x7 s.c1.x8 s.c1.x9 s.c1.x10 s.r s.g s.r2 s.g2 c.x0 c.x1 c.x2 c.x3 c.x4 c.x5 c.x6 c.x7 c.x8 c.x9 c.x10 8 (h ++ [c.x3] ++ [c.x4] ++ [c.x5] ++ [c.x6] ++ [c.x7] ++ [c.x8] ++ [c.x9] ++ [c.x10])).run = some (.inr (h ++ [c.x3] ++ [c.x4] ++ [c.x5] ++ [c.x6] ++ [c.x7] ++ [c.x8] ++ [c.x9] ++ [c.x10])) := by
    simp only [ref34_Lay.l11]
    rw [bb_neg (by rfl), Tw.run_ret]
  have key : Lp (fun z : Int × List Int => (ref34_Lay.l11 i s.m s.a s.l s.f s.t s.c0.x0 s.c0.x1 s.c0.x2 s.c0.x3 s.c0.x4 s.c0.x5 s.c0.x6 s.c0.x7 s.c0.x8 s.c0.x9 s.c0.x10 s.c1.x0 s.c1.x1 s.c1.x2 s.c1.x3 s.c1.x4 s.c1.x5 s.c1.x6 s.c1.x7 s.c1.x8 s.c1.x9 s.c1.x10 s.r s.g s.r2 s.g2 c.x0 c.x1 c.x2 c.x3 c.x4 c.x5 c.x6 c.x7 c.x8 c.x9 c.x10 z.1 z.2).run) (0, h) = some (h ++ [c.x3] ++ [c.x4] ++ [c.x5] ++ [c.x6] ++ [c.x7] ++ [c.x8] ++ [c.x9] ++ [c.x10]) := (Lp_next s0).trans ((Lp_next s1).trans ((Lp_next s2).trans ((Lp_next s3).trans ((Lp_next s4).trans ((Lp_next s5).trans ((Lp_next s6).trans ((Lp_next s7).trans (Lp_end s8))))))))
  exact key.trans (by simp)
theorem ref34_Lay_eq {s : SA} (h : RightS s) : ref34_Lay.c s.m s.a s.l s.f s.t s.c0.x0 s.c0.x1 s.c0.x2 s.c0.x3 s.c0.x4 s.c0.x5 s.c0.x6 s.c0.x7 s.c0.x8 s.c0.x9 s.c0.x10 s.c1.x0 s.c1.x1 s.c1.x2 s.c1.x3 s.c1.x4 s.c1.x5 s.c1.x6 s.c1.x7 s.c1.x8 s.c1.x9 s.c1.x10 s.r s.g s.r2 s.g2 = some (layB s) := by
  have hb := bnd_of h
  have b1 := hb.m; have b2 := hb.a; have b3 := hb.l; have b4 := hb.t; have b5 := hb.r; have b6 := hb.g; have b7 := hb.r2; have b8 := hb.g2; have b9 := hb.c0; have b10 := hb.c1
  have cd : ∀ {a b : Int}, (0 ≤ a ∧ a ≤ 65535) → (0 ≤ b ∧ b ≤ 65535) → w32 (w32 a + w32 (65536 * w32 b)) = a + 65536 * b := fun {a b} ha hb => by
    rw [w32_of (n := a) (by omega) (by omega), w32_of (n := b) (by omega) (by omega), w32_of (n := 65536 * b) (by omega) (by omega), w32_of (by omega) (by omega)]
  have t0 : w32 s.c0.x2 = s.c0.x2 := w32_of (by omega) (by omega)
  have t1 : w32 s.c1.x2 = s.c1.x2 := w32_of (by omega) (by omega)
  have hL : ∀ h0 h1 h2 h3 h4 h5 : Int, ref34_Lay.L6 0 s.m s.a s.l s.f s.t s.c0.x0 s.c0.x1 s.c0.x2 s.c0.x3 s.c0.x4 s.c0.x5 s.c0.x6 s.c0.x7 s.c0.x8 s.c0.x9 s.c0.x10 s.c1.x0 s.c1.x1 s.c1.x2 s.c1.x3 s.c1.x4 s.c1.x5 s.c1.x6 s.c1.x7 s.c1.x8 s.c1.x9 s.c1.x10 s.r s.g s.r2 s.g2 [h0, h1, h2, h3, h4, h5] = some [h0, h1, h2, h3, h4, h5, s.c0.x0 + 65536 * s.c0.x1, s.c0.x2, s.c0.x3, s.c0.x4, s.c0.x5, s.c0.x6, s.c0.x7, s.c0.x8, s.c0.x9, s.c0.x10, s.c1.x0 + 65536 * s.c1.x1, s.c1.x2, s.c1.x3, s.c1.x4, s.c1.x5, s.c1.x6, s.c1.x7, s.c1.x8, s.c1.x9, s.c1.x10] := fun h0 h1 h2 h3 h4 h5 => by
    unfold ref34_Lay.L6
    have s0 : (ref34_Lay.l6 s.m s.a s.l s.f s.t s.c0.x0 s.c0.x1 s.c0.x2 s.c0.x3 s.c0.x4 s.c0.x5 s.c0.x6 s.c0.x7 s.c0.x8 s.c0.x9 s.c0.x10 s.c1.x0 s.c1.x1 s.c1.x2 s.c1.x3 s.c1.x4 s.c1.x5 s.c1.x6 s.c1.x7 s.c1.x8 s.c1.x9 s.c1.x10 s.r s.g s.r2 s.g2 0 [h0, h1, h2, h3, h4, h5]).run = some (.inl (1, [h0, h1, h2, h3, h4, h5, s.c0.x0 + 65536 * s.c0.x1, s.c0.x2, s.c0.x3, s.c0.x4, s.c0.x5, s.c0.x6, s.c0.x7, s.c0.x8, s.c0.x9, s.c0.x10])) := by
      simp only [ref34_Lay.l6]
      rw [bb_pos (by rfl), dd_neg (by decide), dd_pos (by rfl), dd_pos (by simp only [List.length_cons, List.length_nil]; omega), cd b9.1 b9.2.1, t0, opt_some (ref34_L11_eq _ s _ (by simp only [List.length_append, List.length_cons, List.length_nil]; omega) s.c0), Tw.run_ret]
      rfl
    have s1 : (ref34_Lay.l6 s.m s.a s.l s.f s.t s.c0.x0 s.c0.x1 s.c0.x2 s.c0.x3 s.c0.x4 s.c0.x5 s.c0.x6 s.c0.x7 s.c0.x8 s.c0.x9 s.c0.x10 s.c1.x0 s.c1.x1 s.c1.x2 s.c1.x3 s.c1.x4 s.c1.x5 s.c1.x6 s.c1.x7 s.c1.x8 s.c1.x9 s.c1.x10 s.r s.g s.r2 s.g2 1 [h0, h1, h2, h3, h4, h5, s.c0.x0 + 65536 * s.c0.x1, s.c0.x2, s.c0.x3, s.c0.x4, s.c0.x5, s.c0.x6, s.c0.x7, s.c0.x8, s.c0.x9, s.c0.x10]).run = some (.inl (2, [h0, h1, h2, h3, h4, h5, s.c0.x0 + 65536 * s.c0.x1, s.c0.x2, s.c0.x3, s.c0.x4, s.c0.x5, s.c0.x6, s.c0.x7, s.c0.x8, s.c0.x9, s.c0.x10, s.c1.x0 + 65536 * s.c1.x1, s.c1.x2, s.c1.x3, s.c1.x4, s.c1.x5, s.c1.x6, s.c1.x7, s.c1.x8, s.c1.x9, s.c1.x10])) := by
      simp only [ref34_Lay.l6]
      rw [bb_pos (by rfl), dd_pos (by rfl), dd_pos (by simp only [List.length_cons, List.length_nil]; omega), cd b10.1 b10.2.1, t1, opt_some (ref34_L11_eq _ s _ (by simp only [List.length_append, List.length_cons, List.length_nil]; omega) s.c1), Tw.run_ret]
      rfl
    have s2 : (ref34_Lay.l6 s.m s.a s.l s.f s.t s.c0.x0 s.c0.x1 s.c0.x2 s.c0.x3 s.c0.x4 s.c0.x5 s.c0.x6 s.c0.x7 s.c0.x8 s.c0.x9 s.c0.x10 s.c1.x0 s.c1.x1 s.c1.x2 s.c1.x3 s.c1.x4 s.c1.x5 s.c1.x6 s.c1.x7 s.c1.x8 s.c1.x9 s.c1.x10 s.r s.g s.r2 s.g2 2 [h0, h1, h2, h3, h4, h5, s.c0.x0 + 65536 * s.c0.x1, s.c0.x2, s.c0.x3, s.c0.x4, s.c0.x5, s.c0.x6, s.c0.x7, s.c0.x8, s.c0.x9, s.c0.x10, s.c1.x0 + 65536 * s.c1.x1, s.c1.x2, s.c1.x3, s.c1.x4, s.c1.x5, s.c1.x6, s.c1.x7, s.c1.x8, s.c1.x9, s.c1.x10]).run = some (.inr [h0, h1, h2, h3, h4, h5, s.c0.x0 + 65536 * s.c0.x1, s.c0.x2, s.c0.x3, s.c0.x4, s.c0.x5, s.c0.x6, s.c0.x7, s.c0.x8, s.c0.x9, s.c0.x10, s.c1.x0 + 65536 * s.c1.x1, s.c1.x2, s.c1.x3, s.c1.x4, s.c1.x5, s.c1.x6, s.c1.x7, s.c1.x8, s.c1.x9, s.c1.x10]) := by
      simp only [ref34_Lay.l6]
      rw [bb_neg (by rfl), Tw.run_ret]
    exact (Lp_next s0).trans ((Lp_next s1).trans (Lp_end s2))
  simp only [ref34_Lay.c, ref34_Lay.t]
  have e1 : w32 s.m = s.m := w32_of (by omega) (by omega)
  have e2 : w32 s.a = s.a := w32_of (by omega) (by omega)
  have e3 : w32 s.l = s.l := w32_of (by omega) (by omega)
  have e4 : w32 (256 * s.a) = 256 * s.a := w32_of (by omega) (by omega)
  have e5 : w32 (65536 * s.l) = 65536 * s.l := w32_of (by omega) (by omega)
  have e6 : w32 (s.m + 256 * s.a) = s.m + 256 * s.a := w32_of (by omega) (by omega)
  have e7 : w32 (s.m + 256 * s.a + 65536 * s.l) = s.m + 256 * s.a + 65536 * s.l := w32_of (by omega) (by omega)
  have e8 : w32 (s.m + 256 * s.a + 65536 * s.l + 16777216) = s.m + 256 * s.a + 65536 * s.l + 16777216 := w32_of (by omega) (by omega)
  have et : w32 s.t = s.t := w32_of (by omega) (by omega)
  have er : w32 s.r = s.r := w32_of (by omega) (by omega)
  have eg : w32 s.g = s.g := w32_of (by omega) (by omega)
  have er2 : w32 (w64 (s.r2 + 1)) = s.r2 + 1 := by rw [w64_of (by omega) (by omega), w32_of (by omega) (by omega)]
  have eg2 : w32 s.g2 = s.g2 := w32_of (by omega) (by omega)
  rw [e1, e2, e3, e4, e5, e6, e7, e8, et, er, eg, er2, eg2]
  by_cases hf : s.f = true
  · have e : fallN s.f = 16777216 := if_pos hf
    rw [bb_pos hf, opt_some (hL ..), Tw.run_ret]
    unfold layB
    rw [e]
  · have e : fallN s.f = 0 := if_neg hf
    rw [bb_neg (by simpa using hf), opt_some (hL ..), Tw.run_ret]
    unfold layB
    rw [e, Int.add_zero]

/-- The state of words. -/
def decB (f : Bool) (w0 w1 w2 w3 w4 w5 w6 w7 w8 w9 w10 w11 w12 w13 w14 w15 w16 w17 w18 w19 w20 w21 w22 w23 w24 w25 : Int) : SA := ⟨w0 % 256, w0 / 256 % 256, w0 / 65536 % 256, f, w1, ⟨w6 % 65536, w6 / 65536, w7, w8, w9, w10, w11, w12, w13, w14, w15⟩, ⟨w16 % 65536, w16 / 65536, w17, w18, w19, w20, w21, w22, w23, w24, w25⟩, w2, w3, w4 - 1, w5⟩
theorem len26 {l : List Int} (h : l.length = 26) : ∃ w0 w1 w2 w3 w4 w5 w6 w7 w8 w9 w10 w11 w12 w13 w14 w15 w16 w17 w18 w19 w20 w21 w22 w23 w24 w25, l = [w0, w1, w2, w3, w4, w5, w6, w7, w8, w9, w10, w11, w12, w13, w14, w15, w16, w17, w18, w19, w20, w21, w22, w23, w24, w25] := by
  match l, h with
  | [w0, w1, w2, w3, w4, w5, w6, w7, w8, w9, w10, w11, w12, w13, w14, w15, w16, w17, w18, w19, w20, w21, w22, w23, w24, w25], _ => exact ⟨_, _, _, _, _, _, _, _, _, _, _, _, _, _, _, _, _, _, _, _, _, _, _, _, _, _, rfl⟩
theorem equal32_eq {a b : List Int} (ha : a.length ≤ 1000) (hb : b.length ≤ 1000) : slices_Equal__uint32uint32.c a b = some (decide (a = b)) := by
  simp only [slices_Equal__uint32uint32.c, slices_Equal__uint32uint32.t]
  by_cases h : ((a.length : Nat) : Int) = ((b.length : Nat) : Int)
  rotate_left
  · rw [bb_pos (by simpa using h), Tw.run_ret, decide_eq_false (fun g => h (by rw [g]))]
  have hlen : a.length = b.length := by omega
  rw [bb_neg (by simpa using h)]
  have key : ∃ r, slices_Equal__uint32uint32.L4 a b (a.length : Int) 0 = some r ∧ ((r = .inl () ∧ a = b) ∨ (r = .inr false ∧ a ≠ b)) := by
    unfold slices_Equal__uint32uint32.L4
    refine Lp_inv _ (fun s : Int => 0 ≤ s ∧ s ≤ (a.length : Int) ∧ a.take s.toNat = b.take s.toNat) (fun s : Int => a.length - s.toNat) _ (fun s hs => ?_) a.length 0 (by simp) ⟨by omega, by omega, by simp⟩
    obtain ⟨h0, h1, h2⟩ := hs
    simp only [slices_Equal__uint32uint32.l4]
    by_cases hlt : s < (a.length : Int)
    · have ea := getD_some 0 (show s.toNat < a.length by omega)
      have eb := getD_some 0 (show s.toNat < b.length by omega)
      rw [bb_pos (decide_eq_true hlt), dd_pos h0, opt_some ea, dd_pos h0, opt_some eb]
      by_cases hc : a.getD s.toNat 0 = b.getD s.toNat 0
      · refine Or.inl ⟨s + 1, by rw [bb_neg (by rw [hc]; simp), Tw.run_ret, w64_of (by omega) (by omega)], ⟨by omega, by omega, ?_⟩, by omega⟩
        rw [show (s + 1).toNat = s.toNat + 1 by omega, take_snoc 0 (by omega), take_snoc 0 (by omega), h2, hc]
      · refine Or.inr ⟨.inr false, by rw [bb_pos (by simpa using hc), Tw.run_ret], Or.inr ⟨rfl, fun he => hc (by rw [he])⟩⟩
    · refine Or.inr ⟨.inl (), by rw [bb_neg (decide_eq_false hlt), Tw.run_ret], Or.inl ⟨rfl, ?_⟩⟩
      rw [List.take_of_length_le (by omega), List.take_of_length_le (by omega)] at h2
      exact h2
  obtain ⟨r, hr, hq⟩ := key
  rw [opt_some hr]
  rcases hq with ⟨rfl, hq⟩ | ⟨rfl, hq⟩
  · rw [sm_inl, Tw.run_ret, decide_eq_true hq]
  · rw [sm_inr, Tw.run_ret, decide_eq_false hq]
theorem tmod_of {a : Int} (ha : 0 ≤ a) (n : Nat) : Int.tmod a (n : Int) = a % (n : Int) := Int.tmod_eq_emod_of_nonneg ha
theorem tdiv_of {a : Int} (ha : 0 ≤ a) (n : Nat) : Int.tdiv a (n : Int) = a / (n : Int) := Int.tdiv_eq_ediv_of_nonneg ha
theorem and255 {a : Int} (h : 0 ≤ a ∧ a < 9223372036854775808) : bAnd .i64 a 255 = a % 256 := by
  obtain ⟨x, rfl⟩ := Int.eq_ofNat_of_zero_le h.1
  have hx : x &&& 255 < 2 ^ 63 := Nat.and_lt_two_pow _ (by decide)
  show w64 ((BitVec.ofInt 64 (x : Int) &&& BitVec.ofInt 64 ((255 : Nat) : Int)).toNat : Int) = _
  rw [BitVec.ofInt_natCast, BitVec.ofInt_natCast, BitVec.toNat_and, BitVec.toNat_ofNat, BitVec.toNat_ofNat, Nat.mod_eq_of_lt (by omega), Nat.mod_eq_of_lt (by omega)]
  rw [w64_of (by omega) (by omega), show (255 : Nat) = 2 ^ 8 - 1 by decide, Nat.and_two_pow_sub_one_eq_mod]
  omega
theorem shr64 (a : Int) (k : Nat) (hk : k ≤ 64) : bShr .i64 a (k : Int) = a / 2 ^ k := by
  show a.fdiv (2 ^ min ((k : Int).toNat) 64) = _
  rw [Int.toNat_natCast, Nat.min_eq_left hk, Int.fdiv_eq_ediv_of_nonneg]
  exact Int.le_of_lt (Int.pow_pos (by decide))

section
variable {w0 w1 w2 w3 w4 w5 w6 w7 w8 w9 w10 w11 w12 w13 w14 w15 w16 w17 w18 w19 w20 w21 w22 w23 w24 w25 : Int} (q0 : InR .u32 w0) (q1 : InR .u32 w1) (q2 : InR .u32 w2) (q3 : InR .u32 w3) (q4 : InR .u32 w4) (q5 : InR .u32 w5) (q6 : InR .u32 w6) (q7 : InR .u32 w7) (q8 : InR .u32 w8) (q9 : InR .u32 w9) (q10 : InR .u32 w10) (q11 : InR .u32 w11) (q12 : InR .u32 w12) (q13 : InR .u32 w13) (q14 : InR .u32 w14) (q15 : InR .u32 w15) (q16 : InR .u32 w16) (q17 : InR .u32 w17) (q18 : InR .u32 w18) (q19 : InR .u32 w19) (q20 : InR .u32 w20) (q21 : InR .u32 w21) (q22 : InR .u32 w22) (q23 : InR .u32 w23) (q24 : InR .u32 w24) (q25 : InR .u32 w25)
include q0 q1 q2 q3 q4 q5 q6 q7 q8 q9 q10 q11 q12 q13 q14 q15 q16 q17 q18 q19 q20 q21 q22 q23 q24 q25
omit q0 q1 q2 q3 q4 q5 q8 q9 q10 q11 q12 q13 q14 q15 q18 q19 q20 q21 q22 q23 q24 q25 in
theorem book_L7_eq (s0 : SA) (b0 b1 b2 : Int) (bf : Bool) (b4 b27 b28 b29 b30 : Int) : book_Take.L7 [w0, w1, w2, w3, w4, w5, w6, w7, w8, w9, w10, w11, w12, w13, w14, w15, w16, w17, w18, w19, w20, w21, w22, w23, w24, w25] 0 s0.m s0.a s0.l s0.f s0.t s0.c0.x0 s0.c0.x1 s0.c0.x2 s0.c0.x3 s0.c0.x4 s0.c0.x5 s0.c0.x6 s0.c0.x7 s0.c0.x8 s0.c0.x9 s0.c0.x10 s0.c1.x0 s0.c1.x1 s0.c1.x2 s0.c1.x3 s0.c1.x4 s0.c1.x5 s0.c1.x6 s0.c1.x7 s0.c1.x8 s0.c1.x9 s0.c1.x10 s0.r s0.g s0.r2 s0.g2 b0 b1 b2 bf b4 0 0 0 0 0 0 0 0 0 0 0 0 0 0 0 0 0 0 0 0 0 0 b27 b28 b29 b30 = some (w6 % 65536, w6 / 65536, w7, w8, w9, w10, w11, w12, w13, w14, w15, w16 % 65536, w16 / 65536, w17, w18, w19, w20, w21, w22, w23, w24, w25) := by
  have v6 := q6.u32; have v7 := q7.u32; have v16 := q16.u32; have v17 := q17.u32
  have m6 : w64 (bAnd .u32 w6 65535) = w6 % 65536 := by rw [show (65535 : Int) = ((2 ^ 16 - 1 : Nat) : Int) from rfl, bAnd_mask 16 (by omega) v6, w64_of (by omega) (by omega)]; rfl
  have d6 : w64 (bShr .u32 w6 16) = w6 / 65536 := by rw [show (16 : Int) = ((16 : Nat) : Int) from rfl, bShr_u32 _ 16 (by omega), w64_of (by omega) (by omega)]; rfl
  have t6 : w64 w7 = w7 := w64_of (by omega) (by omega)
  have m16 : w64 (bAnd .u32 w16 65535) = w16 % 65536 := by rw [show (65535 : Int) = ((2 ^ 16 - 1 : Nat) : Int) from rfl, bAnd_mask 16 (by omega) v16, w64_of (by omega) (by omega)]; rfl
  have d16 : w64 (bShr .u32 w16 16) = w16 / 65536 := by rw [show (16 : Int) = ((16 : Nat) : Int) from rfl, bShr_u32 _ 16 (by omega), w64_of (by omega) (by omega)]; rfl
  have t16 : w64 w17 = w17 := w64_of (by omega) (by omega)
  unfold book_Take.L7
  have s1 : (book_Take.l7 [w0, w1, w2, w3, w4, w5, w6, w7, w8, w9, w10, w11, w12, w13, w14, w15, w16, w17, w18, w19, w20, w21, w22, w23, w24, w25] s0.m s0.a s0.l s0.f s0.t s0.c0.x0 s0.c0.x1 s0.c0.x2 s0.c0.x3 s0.c0.x4 s0.c0.x5 s0.c0.x6 s0.c0.x7 s0.c0.x8 s0.c0.x9 s0.c0.x10 s0.c1.x0 s0.c1.x1 s0.c1.x2 s0.c1.x3 s0.c1.x4 s0.c1.x5 s0.c1.x6 s0.c1.x7 s0.c1.x8 s0.c1.x9 s0.c1.x10 s0.r s0.g s0.r2 s0.g2 b0 b1 b2 bf b4 b27 b28 b29 b30 0 0 0 0 0 0 0 0 0 0 0 0 0 0 0 0 0 0 0 0 0 0 0 ).run = some (.inl (1, w6 % 65536, w6 / 65536, w7, w8, w9, w10, w11, w12, w13, w14, w15, 0, 0, 0, 0, 0, 0, 0, 0, 0, 0, 0)) := by
    simp only [book_Take.l7]
    rw [bb_pos (by rfl), dd_pos ⟨by decide, by exact (by decide : (6 : Int) ≤ 26)⟩, dd_pos ⟨by decide, by exact (by decide : (10 : Int) ≤ 20)⟩, opt_some (x := w6) (by rfl), opt_some (x := w6) (by rfl), opt_some (x := w7) (by rfl), dd_neg (by decide), dd_pos (by rfl), dd_neg (by decide), dd_pos (by rfl), dd_pos ⟨by decide, by exact (by decide : (2 : Int) ≤ 10)⟩, Tw.run_ret, m6, d6, t6]
    rfl
  have s2 : (book_Take.l7 [w0, w1, w2, w3, w4, w5, w6, w7, w8, w9, w10, w11, w12, w13, w14, w15, w16, w17, w18, w19, w20, w21, w22, w23, w24, w25] s0.m s0.a s0.l s0.f s0.t s0.c0.x0 s0.c0.x1 s0.c0.x2 s0.c0.x3 s0.c0.x4 s0.c0.x5 s0.c0.x6 s0.c0.x7 s0.c0.x8 s0.c0.x9 s0.c0.x10 s0.c1.x0 s0.c1.x1 s0.c1.x2 s0.c1.x3 s0.c1.x4 s0.c1.x5 s0.c1.x6 s0.c1.x7 s0.c1.x8 s0.c1.x9 s0.c1.x10 s0.r s0.g s0.r2 s0.g2 b0 b1 b2 bf b4 b27 b28 b29 b30 1 (w6 % 65536) (w6 / 65536) w7 w8 w9 w10 w11 w12 w13 w14 w15 0 0 0 0 0 0 0 0 0 0 0 ).run = some (.inl (2, w6 % 65536, w6 / 65536, w7, w8, w9, w10, w11, w12, w13, w14, w15, w16 % 65536, w16 / 65536, w17, w18, w19, w20, w21, w22, w23, w24, w25)) := by
    simp only [book_Take.l7]
    rw [bb_pos (by rfl), dd_pos ⟨by decide, by exact (by decide : (16 : Int) ≤ 26)⟩, dd_pos ⟨by decide, by exact (by decide : (10 : Int) ≤ 10)⟩, opt_some (x := w16) (by rfl), opt_some (x := w16) (by rfl), opt_some (x := w17) (by rfl), dd_pos (by rfl), dd_pos (by rfl), dd_pos ⟨by decide, by exact (by decide : (2 : Int) ≤ 10)⟩, Tw.run_ret, m16, d16, t16]
    rfl
  have s3 : (book_Take.l7 [w0, w1, w2, w3, w4, w5, w6, w7, w8, w9, w10, w11, w12, w13, w14, w15, w16, w17, w18, w19, w20, w21, w22, w23, w24, w25] s0.m s0.a s0.l s0.f s0.t s0.c0.x0 s0.c0.x1 s0.c0.x2 s0.c0.x3 s0.c0.x4 s0.c0.x5 s0.c0.x6 s0.c0.x7 s0.c0.x8 s0.c0.x9 s0.c0.x10 s0.c1.x0 s0.c1.x1 s0.c1.x2 s0.c1.x3 s0.c1.x4 s0.c1.x5 s0.c1.x6 s0.c1.x7 s0.c1.x8 s0.c1.x9 s0.c1.x10 s0.r s0.g s0.r2 s0.g2 b0 b1 b2 bf b4 b27 b28 b29 b30 2 (w6 % 65536) (w6 / 65536) w7 w8 w9 w10 w11 w12 w13 w14 w15 (w16 % 65536) (w16 / 65536) w17 w18 w19 w20 w21 w22 w23 w24 w25).run = some (.inr (w6 % 65536, w6 / 65536, w7, w8, w9, w10, w11, w12, w13, w14, w15, w16 % 65536, w16 / 65536, w17, w18, w19, w20, w21, w22, w23, w24, w25)) := by
    simp only [book_Take.l7]
    rw [bb_neg (by rfl), Tw.run_ret]
  exact (Lp_next s1).trans ((Lp_next s2).trans (Lp_end s3))
omit q0 q1 q2 q3 q4 q5 q6 q7 q8 q9 q10 q11 q12 q13 q14 q15 q16 q17 q18 q19 q20 q21 q22 q23 q24 q25 in
theorem ref34_L15_0 (s0 : SA) (b0 b1 b2 : Int) (bf : Bool) (b4 b5 b6 b7 b16 b17 b18 b27 b28 b29 b30 : Int) : ref34_Take.L15 [w0, w1, w2, w3, w4, w5, w6, w7, w8, w9, w10, w11, w12, w13, w14, w15, w16, w17, w18, w19, w20, w21, w22, w23, w24, w25] 0 6 0 s0.m s0.a s0.l s0.f s0.t s0.c0.x0 s0.c0.x1 s0.c0.x2 s0.c0.x3 s0.c0.x4 s0.c0.x5 s0.c0.x6 s0.c0.x7 s0.c0.x8 s0.c0.x9 s0.c0.x10 s0.c1.x0 s0.c1.x1 s0.c1.x2 s0.c1.x3 s0.c1.x4 s0.c1.x5 s0.c1.x6 s0.c1.x7 s0.c1.x8 s0.c1.x9 s0.c1.x10 s0.r s0.g s0.r2 s0.g2 b0 b1 b2 bf b4 b5 b6 b7 0 0 0 0 0 0 0 0 b16 b17 b18 0 0 0 0 0 0 0 0 b27 b28 b29 b30 = some (w8, w9, w10, w11, w12, w13, w14, w15, 0, 0, 0, 0, 0, 0, 0, 0) := by
  unfold ref34_Take.L15
  have g0 : (ref34_Take.l15 [w0, w1, w2, w3, w4, w5, w6, w7, w8, w9, w10, w11, w12, w13, w14, w15, w16, w17, w18, w19, w20, w21, w22, w23, w24, w25] 0 6 s0.m s0.a s0.l s0.f s0.t s0.c0.x0 s0.c0.x1 s0.c0.x2 s0.c0.x3 s0.c0.x4 s0.c0.x5 s0.c0.x6 s0.c0.x7 s0.c0.x8 s0.c0.x9 s0.c0.x10 s0.c1.x0 s0.c1.x1 s0.c1.x2 s0.c1.x3 s0.c1.x4 s0.c1.x5 s0.c1.x6 s0.c1.x7 s0.c1.x8 s0.c1.x9 s0.c1.x10 s0.r s0.g s0.r2 s0.g2 b0 b1 b2 bf b4 b5 b6 b7 b16 b17 b18 b27 b28 b29 b30 0 0 0 0 0 0 0 0 0 0 0 0 0 0 0 0 0).run = some (.inl (1, w8, 0, 0, 0, 0, 0, 0, 0, 0, 0, 0, 0, 0, 0, 0, 0)) := by
    simp only [ref34_Take.l15]
    rw [bb_pos (by rfl), dd_pos (by decide), opt_some (x := w8) (by rfl), dd_neg (by decide), dd_pos (by rfl), dd_neg (by decide), dd_neg (by decide), dd_neg (by decide), dd_neg (by decide), dd_neg (by decide), dd_neg (by decide), dd_neg (by decide), dd_pos (by rfl), Tw.run_ret]
    rfl
  have g1 : (ref34_Take.l15 [w0, w1, w2, w3, w4, w5, w6, w7, w8, w9, w10, w11, w12, w13, w14, w15, w16, w17, w18, w19, w20, w21, w22, w23, w24, w25] 0 6 s0.m s0.a s0.l s0.f s0.t s0.c0.x0 s0.c0.x1 s0.c0.x2 s0.c0.x3 s0.c0.x4 s0.c0.x5 s0.c0.x6 s0.c0.x7 s0.c0.x8 s0.c0.x9 s0.c0.x10 s0.c1.x0 s0.c1.x1 s0.c1.x2 s0.c1.x3 s0.c1.x4 s0.c1.x5 s0.c1.x6 s0.c1.x7 s0.c1.x8 s0.c1.x9 s0.c1.x10 s0.r s0.g s0.r2 s0.g2 b0 b1 b2 bf b4 b5 b6 b7 b16 b17 b18 b27 b28 b29 b30 1 w8 0 0 0 0 0 0 0 0 0 0 0 0 0 0 0).run = some (.inl (2, w8, w9, 0, 0, 0, 0, 0, 0, 0, 0, 0, 0, 0, 0, 0, 0)) := by
    simp only [ref34_Take.l15]
    rw [bb_pos (by rfl), dd_pos (by decide), opt_some (x := w9) (by rfl), dd_neg (by decide), dd_pos (by rfl), dd_neg (by decide), dd_neg (by decide), dd_neg (by decide), dd_neg (by decide), dd_neg (by decide), dd_neg (by decide), dd_pos (by rfl), Tw.run_ret]
    rfl
  have g2 : (ref34_Take.l15 [w0, w1, w2, w3, w4, w5, w6, w7, w8, w9, w10, w11, w12, w13, w14, w15, w16, w17, w18, w19, w20, w21, w22, w23, w24, w25] 0 6 s0.m s0.a s0.l s0.f s0.t s0.c0.x0 s0.c0.x1 s0.c0.x2 s0.c0.x3 s0.c0.x4 s0.c0.x5 s0.c0.x6 s0.c0.x7 s0.c0.x8 s0.c0.x9 s0.c0.x10 s0.c1.x0 s0.c1.x1 s0.c1.x2 s0.c1.x3 s0.c1.x4 s0.c1.x5 s0.c1.x6 s0.c1.x7 s0.c1.x8 s0.c1.x9 s0.c1.x10 s0.r s0.g s0.r2 s0.g2 b0 b1 b2 bf b4 b5 b6 b7 b16 b17 b18 b27 b28 b29 b30 2 w8 w9 0 0 0 0 0 0 0 0 0 0 0 0 0 0).run = some (.inl (3, w8, w9, w10, 0, 0, 0, 0, 0, 0, 0, 0, 0, 0, 0, 0, 0)) := by
    simp only [ref34_Take.l15]
    rw [bb_pos (by rfl), dd_pos (by decide), opt_some (x := w10) (by rfl), dd_neg (by decide), dd_pos (by rfl), dd_neg (by decide), dd_neg (by decide), dd_neg (by decide), dd_neg (by decide), dd_neg (by decide), dd_pos (by rfl), Tw.run_ret]
    rfl
  have g3 : (ref34_Take.l15 [w0, w1, w2, w3, w4, w5, w6, w7, w8, w9, w10, w11, w12, w13, w14, w15, w16, w17, w18, w19, w20, w21, w22, w23, w24, w25] 0 6 s0.m s0.a s0.l s0.f s0.t s0.c0.x0 s0.c0.x1 s0.c0.x2 s0.c0.x3 s0.c0.x4 s0.c0.x5 s0.c0.x6 s0.c0.x7 s0.c0.x8 s0.c0.x9 s0.c0.x10 s0.c1.x0 s0.c1.x1 s0.c1.x2 s0.c1.x3 s0.c1.x4 s0.c1.x5 s0.c1.x6 s0.c1.x7 s0.c1.x8 s0.c1.x9 s0.c1.x10 s0.r s0.g s0.r2 s0.g2 b0 b1 b2 bf b4 b5 b6 b7 b16 b17 b18 b27 b28 b29 b30 3 w8 w9 w10 0 0 0 0 0 0 0 0 0 0 0 0 0).run = some (.inl (4, w8, w9, w10, w11, 0, 0, 0, 0, 0, 0, 0, 0, 0, 0, 0, 0)) := by
    simp only [ref34_Take.l15]
    rw [bb_pos (by rfl), dd_pos (by decide), opt_some (x := w11) (by rfl), dd_neg (by decide), dd_pos (by rfl), dd_neg (by decide), dd_neg (by decide), dd_neg (by decide), dd_neg (by decide), dd_pos (by rfl), Tw.run_ret]
    rfl
  have g4 : (ref34_Take.l15 [w0, w1, w2, w3, w4, w5, w6, w7, w8, w9, w10, w11, w12, w13, w14, w15, w16, w17, w18, w19, w20, w21, w22, w23, w24, w25] 0 6 s0.m s0.a s0.l s0.f s0.t s0.c0.x0 s0.c0.x1 s0.c0.x2 s0.c0.x3 s0.c0.x4 s0.c0.x5 s0.c0.x6 s0.c0.x7 s0.c0.x8 s0.c0.x9 s0.c0.x10 s0.c1.x0 s0.c1.x1 s0.c1.x2 s0.c1.x3 s0.c1.x4 s0.c1.x5 s0.c1.x6 s0.c1.x7 s0.c1.x8 s0.c1.x9 s0.c1.x10 s0.r s0.g s0.r2 s0.g2 b0 b1 b2 bf b4 b5 b6 b7 b16 b17 b18 b27 b28 b29 b30 4 w8 w9 w10 w11 0 0 0 0 0 0 0 0 0 0 0 0).run = some (.inl (5, w8, w9, w10, w11, w12, 0, 0, 0, 0, 0, 0, 0, 0, 0, 0, 0)) := by
    simp only [ref34_Take.l15]
    rw [bb_pos (by rfl), dd_pos (by decide), opt_some (x := w12) (by rfl), dd_neg (by decide), dd_pos (by rfl), dd_neg (by decide), dd_neg (by decide), dd_neg (by decide), dd_pos (by rfl), Tw.run_ret]
    rfl
  have g5 : (ref34_Take.l15 [w0, w1, w2, w3, w4, w5, w6, w7, w8, w9, w10, w11, w12, w13, w14, w15, w16, w17, w18, w19, w20, w21, w22, w23, w24, w25] 0 6 s0.m s0.a s0.l s0.f s0.t s0.c0.x0 s0.c0.x1 s0.c0.x2 s0.c0.x3 s0.c0.x4 s0.c0.x5 s0.c0.x6 s0.c0.x7 s0.c0.x8 s0.c0.x9 s0.c0.x10 s0.c1.x0 s0.c1.x1 s0.c1.x2 s0.c1.x3 s0.c1.x4 s0.c1.x5 s0.c1.x6 s0.c1.x7 s0.c1.x8 s0.c1.x9 s0.c1.x10 s0.r s0.g s0.r2 s0.g2 b0 b1 b2 bf b4 b5 b6 b7 b16 b17 b18 b27 b28 b29 b30 5 w8 w9 w10 w11 w12 0 0 0 0 0 0 0 0 0 0 0).run = some (.inl (6, w8, w9, w10, w11, w12, w13, 0, 0, 0, 0, 0, 0, 0, 0, 0, 0)) := by
    simp only [ref34_Take.l15]
    rw [bb_pos (by rfl), dd_pos (by decide), opt_some (x := w13) (by rfl), dd_neg (by decide), dd_pos (by rfl), dd_neg (by decide), dd_neg (by decide), dd_pos (by rfl), Tw.run_ret]
    rfl
  have g6 : (ref34_Take.l15 [w0, w1, w2, w3, w4, w5, w6, w7, w8, w9, w10, w11, w12, w13, w14, w15, w16, w17, w18, w19, w20, w21, w22, w23, w24, w25] 0 6 s0.m s0.a s0.l s0.f s0.t s0.c0.x0 s0.c0.x1 s0.c0.x2 s0.c0.x3 s0.c0.x4 s0.c0.x5 s0.c0.x6 s0.c0.x7 s0.c0.x8 s0.c0.x9 s0.c0.x10 s0.c1.x0 s0.c1.x1 s0.c1.x2 s0.c1.x3 s0.c1.x4 s0.c1.x5 s0.c1.x6 s0.c1.x7 s0.c1.x8 s0.c1.x9 s0.c1.x10 s0.r s0.g s0.r2 s0.g2 b0 b1 b2 bf b4 b5 b6 b7 b16 b17 b18 b27 b28 b29 b30 6 w8 w9 w10 w11 w12 w13 0 0 0 0 0 0 0 0 0 0).run = some (.inl (7, w8, w9, w10, w11, w12, w13, w14, 0, 0, 0, 0, 0, 0, 0, 0, 0)) := by
    simp only [ref34_Take.l15]
    rw [bb_pos (by rfl), dd_pos (by decide), opt_some (x := w14) (by rfl), dd_neg (by decide), dd_pos (by rfl), dd_neg (by decide), dd_pos (by rfl), Tw.run_ret]
    rfl
  have g7 : (ref34_Take.l15 [w0, w1, w2, w3, w4, w5, w6, w7, w8, w9, w10, w11, w12, w13, w14, w15, w16, w17, w18, w19, w20, w21, w22, w23, w24, w25] 0 6 s0.m s0.a s0.l s0.f s0.t s0.c0.x0 s0.c0.x1 s0.c0.x2 s0.c0.x3 s0.c0.x4 s0.c0.x5 s0.c0.x6 s0.c0.x7 s0.c0.x8 s0.c0.x9 s0.c0.x10 s0.c1.x0 s0.c1.x1 s0.c1.x2 s0.c1.x3 s0.c1.x4 s0.c1.x5 s0.c1.x6 s0.c1.x7 s0.c1.x8 s0.c1.x9 s0.c1.x10 s0.r s0.g s0.r2 s0.g2 b0 b1 b2 bf b4 b5 b6 b7 b16 b17 b18 b27 b28 b29 b30 7 w8 w9 w10 w11 w12 w13 w14 0 0 0 0 0 0 0 0 0).run = some (.inl (8, w8, w9, w10, w11, w12, w13, w14, w15, 0, 0, 0, 0, 0, 0, 0, 0)) := by
    simp only [ref34_Take.l15]
    rw [bb_pos (by rfl), dd_pos (by decide), opt_some (x := w15) (by rfl), dd_neg (by decide), dd_pos (by rfl), dd_pos (by rfl), Tw.run_ret]
    rfl
  have g8 : (ref34_Take.l15 [w0, w1, w2, w3, w4, w5, w6, w7, w8, w9, w10, w11, w12, w13, w14, w15, w16, w17, w18, w19, w20, w21, w22, w23, w24, w25] 0 6 s0.m s0.a s0.l s0.f s0.t s0.c0.x0 s0.c0.x1 s0.c0.x2 s0.c0.x3 s0.c0.x4 s0.c0.x5 s0.c0.x6 s0.c0.x7 s0.c0.x8 s0.c0.x9 s0.c0.x10 s0.c1.x0 s0.c1.x1 s0.c1.x2 s0.c1.x3 s0.c1.x4 s0.c1.x5 s0.c1.x6 s0.c1.x7 s0.c1.x8 s0.c1.x9 s0.c1.x10 s0.r s0.g s0.r2 s0.g2 b0 b1 b2 bf b4 b5 b6 b7 b16 b17 b18 b27 b28 b29 b30 8 w8 w9 w10 w11 w12 w13 w14 w15 0 0 0 0 0 0 0 0).run = some (.inr (w8, w9, w10, w11, w12, w13, w14, w15, 0, 0, 0, 0, 0, 0, 0, 0)) := by
    simp only [ref34_Take.l15]
    rw [bb_neg (by rfl), Tw.run_ret]
  exact (Lp_next g0).trans ((Lp_next g1).trans ((Lp_next g2).trans ((Lp_next g3).trans ((Lp_next g4).trans ((Lp_next g5).trans ((Lp_next g6).trans ((Lp_next g7).trans (Lp_end g8))))))))
omit q0 q1 q2 q3 q4 q5 q6 q7 q8 q9 q10 q11 q12 q13 q14 q15 q16 q17 q18 q19 q20 q21 q22 q23 q24 q25 in
theorem ref34_L15_1 (s0 : SA) (b0 b1 b2 : Int) (bf : Bool) (b4 b5 b6 b7 b16 b17 b18 b27 b28 b29 b30 : Int) : ref34_Take.L15 [w0, w1, w2, w3, w4, w5, w6, w7, w8, w9, w10, w11, w12, w13, w14, w15, w16, w17, w18, w19, w20, w21, w22, w23, w24, w25] 1 16 0 s0.m s0.a s0.l s0.f s0.t s0.c0.x0 s0.c0.x1 s0.c0.x2 s0.c0.x3 s0.c0.x4 s0.c0.x5 s0.c0.x6 s0.c0.x7 s0.c0.x8 s0.c0.x9 s0.c0.x10 s0.c1.x0 s0.c1.x1 s0.c1.x2 s0.c1.x3 s0.c1.x4 s0.c1.x5 s0.c1.x6 s0.c1.x7 s0.c1.x8 s0.c1.x9 s0.c1.x10 s0.r s0.g s0.r2 s0.g2 b0 b1 b2 bf b4 b5 b6 b7 w8 w9 w10 w11 w12 w13 w14 w15 b16 b17 b18 0 0 0 0 0 0 0 0 b27 b28 b29 b30 = some (w8, w9, w10, w11, w12, w13, w14, w15, w18, w19, w20, w21, w22, w23, w24, w25) := by
  unfold ref34_Take.L15
  have g0 : (ref34_Take.l15 [w0, w1, w2, w3, w4, w5, w6, w7, w8, w9, w10, w11, w12, w13, w14, w15, w16, w17, w18, w19, w20, w21, w22, w23, w24, w25] 1 16 s0.m s0.a s0.l s0.f s0.t s0.c0.x0 s0.c0.x1 s0.c0.x2 s0.c0.x3 s0.c0.x4 s0.c0.x5 s0.c0.x6 s0.c0.x7 s0.c0.x8 s0.c0.x9 s0.c0.x10 s0.c1.x0 s0.c1.x1 s0.c1.x2 s0.c1.x3 s0.c1.x4 s0.c1.x5 s0.c1.x6 s0.c1.x7 s0.c1.x8 s0.c1.x9 s0.c1.x10 s0.r s0.g s0.r2 s0.g2 b0 b1 b2 bf b4 b5 b6 b7 b16 b17 b18 b27 b28 b29 b30 0 w8 w9 w10 w11 w12 w13 w14 w15 0 0 0 0 0 0 0 0).run = some (.inl (1, w8, w9, w10, w11, w12, w13, w14, w15, w18, 0, 0, 0, 0, 0, 0, 0)) := by
    simp only [ref34_Take.l15]
    rw [bb_pos (by rfl), dd_pos (by decide), opt_some (x := w18) (by rfl), dd_pos (by rfl), dd_neg (by decide), dd_neg (by decide), dd_neg (by decide), dd_neg (by decide), dd_neg (by decide), dd_neg (by decide), dd_neg (by decide), dd_pos (by rfl), Tw.run_ret]
    rfl
  have g1 : (ref34_Take.l15 [w0, w1, w2, w3, w4, w5, w6, w7, w8, w9, w10, w11, w12, w13, w14, w15, w16, w17, w18, w19, w20, w21, w22, w23, w24, w25] 1 16 s0.m s0.a s0.l s0.f s0.t s0.c0.x0 s0.c0.x1 s0.c0.x2 s0.c0.x3 s0.c0.x4 s0.c0.x5 s0.c0.x6 s0.c0.x7 s0.c0.x8 s0.c0.x9 s0.c0.x10 s0.c1.x0 s0.c1.x1 s0.c1.x2 s0.c1.x3 s0.c1.x4 s0.c1.x5 s0.c1.x6 s0.c1.x7 s0.c1.x8 s0.c1.x9 s0.c1.x10 s0.r s0.g s0.r2 s0.g2 b0 b1 b2 bf b4 b5 b6 b7 b16 b17 b18 b27 b28 b29 b30 1 w8 w9 w10 w11 w12 w13 w14 w15 w18 0 0 0 0 0 0 0).run = some (.inl (2, w8, w9, w10, w11, w12, w13, w14, w15, w18, w19, 0, 0, 0, 0, 0, 0)) := by
    simp only [ref34_Take.l15]
    rw [bb_pos (by rfl), dd_pos (by decide), opt_some (x := w19) (by rfl), dd_pos (by rfl), dd_neg (by decide), dd_neg (by decide), dd_neg (by decide), dd_neg (by decide), dd_neg (by decide), dd_neg (by decide), dd_pos (by rfl), Tw.run_ret]
    rfl
  have g2 : (ref34_Take.l15 [w0, w1, w2, w3, w4, w5, w6, w7, w8, w9, w10, w11, w12, w13, w14, w15, w16, w17, w18, w19, w20, w21, w22, w23, w24, w25] 1 16 s0.m s0.a s0.l s0.f s0.t s0.c0.x0 s0.c0.x1 s0.c0.x2 s0.c0.x3 s0.c0.x4 s0.c0.x5 s0.c0.x6 s0.c0.x7 s0.c0.x8 s0.c0.x9 s0.c0.x10 s0.c1.x0 s0.c1.x1 s0.c1.x2 s0.c1.x3 s0.c1.x4 s0.c1.x5 s0.c1.x6 s0.c1.x7 s0.c1.x8 s0.c1.x9 s0.c1.x10 s0.r s0.g s0.r2 s0.g2 b0 b1 b2 bf b4 b5 b6 b7 b16 b17 b18 b27 b28 b29 b30 2 w8 w9 w10 w11 w12 w13 w14 w15 w18 w19 0 0 0 0 0 0).run = some (.inl (3, w8, w9, w10, w11, w12, w13, w14, w15, w18, w19, w20, 0, 0, 0, 0, 0)) := by
    simp only [ref34_Take.l15]
    rw [bb_pos (by rfl), dd_pos (by decide), opt_some (x := w20) (by rfl), dd_pos (by rfl), dd_neg (by decide), dd_neg (by decide), dd_neg (by decide), dd_neg (by decide), dd_neg (by decide), dd_pos (by rfl), Tw.run_ret]
    rfl
  have g3 : (ref34_Take.l15 [w0, w1, w2, w3, w4, w5, w6, w7, w8, w9, w10, w11, w12, w13, w14, w15, w16, w17, w18, w19, w20, w21, w22, w23, w24, w25] 1 16 s0.m s0.a s0.l s0.f s0.t s0.c0.x0 s0.c0.x1 s0.c0.x2 s0.c0.x3 s0.c0.x4 s0.c0.x5 s0.c0.x6 s0.c0.x7 s0.c0.x8 s0.c0.x9 s0.c0.x10 s0.c1.x0 s0.c1.x1 s0.c1.x2 s0.c1.x3 s0.c1.x4 s0.c1.x5 s0.c1.x6 s0.c1.x7 s0.c1.x8 s0.c1.x9 s0.c1.x10 s0.r s0.g s0.r2 s0.g2 b0 b1 b2 bf b4 b5 b6 b7 b16 b17 b18 b27 b28 b29 b30 3 w8 w9 w10 w11 w12 w13 w14 w15 w18 w19 w20 0 0 0 0 0).run = some (.inl (4, w8, w9, w10, w11, w12, w13, w14, w15, w18, w19, w20, w21, 0, 0, 0, 0)) := by
    simp only [ref34_Take.l15]
    rw [bb_pos (by rfl), dd_pos (by decide), opt_some (x := w21) (by rfl), dd_pos (by rfl), dd_neg (by decide), dd_neg (by decide), dd_neg (by decide), dd_neg (by decide), dd_pos (by rfl), Tw.run_ret]
    rfl
  have g4 : (ref34_Take.l15 [w0, w1, w2, w3, w4, w5, w6, w7, w8, w9, w10, w11, w12, w13, w14, w15, w16, w17, w18, w19, w20, w21, w22, w23, w24, w25] 1 16 s0.m s0.a s0.l s0.f s0.t s0.c0.x0 s0.c0.x1 s0.c0.x2 s0.c0.x3 s0.c0.x4 s0.c0.x5 s0.c0.x6 s0.c0.x7 s0.c0.x8 s0.c0.x9 s0.c0.x10 s0.c1.x0 s0.c1.x1 s0.c1.x2 s0.c1.x3 s0.c1.x4 s0.c1.x5 s0.c1.x6 s0.c1.x7 s0.c1.x8 s0.c1.x9 s0.c1.x10 s0.r s0.g s0.r2 s0.g2 b0 b1 b2 bf b4 b5 b6 b7 b16 b17 b18 b27 b28 b29 b30 4 w8 w9 w10 w11 w12 w13 w14 w15 w18 w19 w20 w21 0 0 0 0).run = some (.inl (5, w8, w9, w10, w11, w12, w13, w14, w15, w18, w19, w20, w21, w22, 0, 0, 0)) := by
    simp only [ref34_Take.l15]
    rw [bb_pos (by rfl), dd_pos (by decide), opt_some (x := w22) (by rfl), dd_pos (by rfl), dd_neg (by decide), dd_neg (by decide), dd_neg (by decide), dd_pos (by rfl), Tw.run_ret]
    rfl
  have g5 : (ref34_Take.l15 [w0, w1, w2, w3, w4, w5, w6, w7, w8, w9, w10, w11, w12, w13, w14, w15, w16, w17, w18, w19, w20, w21, w22, w23, w24, w25] 1 16 s0.m s0.a s0.l s0.f s0.t s0.c0.x0 s0.c0.x1 s0.c0.x2 s0.c0.x3 s0.c0.x4 s0.c0.x5 s0.c0.x6 s0.c0.x7 s0.c0.x8 s0.c0.x9 s0.c0.x10 s0.c1.x0 s0.c1.x1 s0.c1.x2 s0.c1.x3 s0.c1.x4 s0.c1.x5 s0.c1.x6 s0.c1.x7 s0.c1.x8 s0.c1.x9 s0.c1.x10 s0.r s0.g s0.r2 s0.g2 b0 b1 b2 bf b4 b5 b6 b7 b16 b17 b18 b27 b28 b29 b30 5 w8 w9 w10 w11 w12 w13 w14 w15 w18 w19 w20 w21 w22 0 0 0).run = some (.inl (6, w8, w9, w10, w11, w12, w13, w14, w15, w18, w19, w20, w21, w22, w23, 0, 0)) := by
    simp only [ref34_Take.l15]
    rw [bb_pos (by rfl), dd_pos (by decide), opt_some (x := w23) (by rfl), dd_pos (by rfl), dd_neg (by decide), dd_neg (by decide), dd_pos (by rfl), Tw.run_ret]
    rfl
  have g6 : (ref34_Take.l15 [w0, w1, w2, w3, w4, w5, w6, w7, w8, w9, w10, w11, w12, w13, w14, w15, w16, w17, w18, w19, w20, w21, w22, w23, w24, w25] 1 16 s0.m s0.a s0.l s0.f s0.t s0.c0.x0 s0.c0.x1 s0.c0.x2 s0.c0.x3 s0.c0.x4 s0.c0.x5 s0.c0.x6 s0.c0.x7 s0.c0.x8 s0.c0.x9 s0.c0.x10 s0.c1.x0 s0.c1.x1 s0.c1.x2 s0.c1.x3 s0.c1.x4 s0.c1.x5 s0.c1.x6 s0.c1.x7 s0.c1.x8 s0.c1.x9 s0.c1.x10 s0.r s0.g s0.r2 s0.g2 b0 b1 b2 bf b4 b5 b6 b7 b16 b17 b18 b27 b28 b29 b30 6 w8 w9 w10 w11 w12 w13 w14 w15 w18 w19 w20 w21 w22 w23 0 0).run = some (.inl (7, w8, w9, w10, w11, w12, w13, w14, w15, w18, w19, w20, w21, w22, w23, w24, 0)) := by
    simp only [ref34_Take.l15]
    rw [bb_pos (by rfl), dd_pos (by decide), opt_some (x := w24) (by rfl), dd_pos (by rfl), dd_neg (by decide), dd_pos (by rfl), Tw.run_ret]
    rfl
  have g7 : (ref34_Take.l15 [w0, w1, w2, w3, w4, w5, w6, w7, w8, w9, w10, w11, w12, w13, w14, w15, w16, w17, w18, w19, w20, w21, w22, w23, w24, w25] 1 16 s0.m s0.a s0.l s0.f s0.t s0.c0.x0 s0.c0.x1 s0.c0.x2 s0.c0.x3 s0.c0.x4 s0.c0.x5 s0.c0.x6 s0.c0.x7 s0.c0.x8 s0.c0.x9 s0.c0.x10 s0.c1.x0 s0.c1.x1 s0.c1.x2 s0.c1.x3 s0.c1.x4 s0.c1.x5 s0.c1.x6 s0.c1.x7 s0.c1.x8 s0.c1.x9 s0.c1.x10 s0.r s0.g s0.r2 s0.g2 b0 b1 b2 bf b4 b5 b6 b7 b16 b17 b18 b27 b28 b29 b30 7 w8 w9 w10 w11 w12 w13 w14 w15 w18 w19 w20 w21 w22 w23 w24 0).run = some (.inl (8, w8, w9, w10, w11, w12, w13, w14, w15, w18, w19, w20, w21, w22, w23, w24, w25)) := by
    simp only [ref34_Take.l15]
    rw [bb_pos (by rfl), dd_pos (by decide), opt_some (x := w25) (by rfl), dd_pos (by rfl), dd_pos (by rfl), Tw.run_ret]
    rfl
  have g8 : (ref34_Take.l15 [w0, w1, w2, w3, w4, w5, w6, w7, w8, w9, w10, w11, w12, w13, w14, w15, w16, w17, w18, w19, w20, w21, w22, w23, w24, w25] 1 16 s0.m s0.a s0.l s0.f s0.t s0.c0.x0 s0.c0.x1 s0.c0.x2 s0.c0.x3 s0.c0.x4 s0.c0.x5 s0.c0.x6 s0.c0.x7 s0.c0.x8 s0.c0.x9 s0.c0.x10 s0.c1.x0 s0.c1.x1 s0.c1.x2 s0.c1.x3 s0.c1.x4 s0.c1.x5 s0.c1.x6 s0.c1.x7 s0.c1.x8 s0.c1.x9 s0.c1.x10 s0.r s0.g s0.r2 s0.g2 b0 b1 b2 bf b4 b5 b6 b7 b16 b17 b18 b27 b28 b29 b30 8 w8 w9 w10 w11 w12 w13 w14 w15 w18 w19 w20 w21 w22 w23 w24 w25).run = some (.inr (w8, w9, w10, w11, w12, w13, w14, w15, w18, w19, w20, w21, w22, w23, w24, w25)) := by
    simp only [ref34_Take.l15]
    rw [bb_neg (by rfl), Tw.run_ret]
  exact (Lp_next g0).trans ((Lp_next g1).trans ((Lp_next g2).trans ((Lp_next g3).trans ((Lp_next g4).trans ((Lp_next g5).trans ((Lp_next g6).trans ((Lp_next g7).trans (Lp_end g8))))))))
omit q0 q1 q2 q3 q4 q5 q8 q9 q10 q11 q12 q13 q14 q15 q18 q19 q20 q21 q22 q23 q24 q25 in
theorem ref34_L10_eq (s0 : SA) (b0 b1 b2 : Int) (bf : Bool) (b4 b27 b28 b29 b30 : Int) : ref34_Take.L10 [w0, w1, w2, w3, w4, w5, w6, w7, w8, w9, w10, w11, w12, w13, w14, w15, w16, w17, w18, w19, w20, w21, w22, w23, w24, w25] 0 s0.m s0.a s0.l s0.f s0.t s0.c0.x0 s0.c0.x1 s0.c0.x2 s0.c0.x3 s0.c0.x4 s0.c0.x5 s0.c0.x6 s0.c0.x7 s0.c0.x8 s0.c0.x9 s0.c0.x10 s0.c1.x0 s0.c1.x1 s0.c1.x2 s0.c1.x3 s0.c1.x4 s0.c1.x5 s0.c1.x6 s0.c1.x7 s0.c1.x8 s0.c1.x9 s0.c1.x10 s0.r s0.g s0.r2 s0.g2 b0 b1 b2 bf b4 0 0 0 0 0 0 0 0 0 0 0 0 0 0 0 0 0 0 0 0 0 0 b27 b28 b29 b30 = some (w6 % 65536, w6 / 65536, w7, w8, w9, w10, w11, w12, w13, w14, w15, w16 % 65536, w16 / 65536, w17, w18, w19, w20, w21, w22, w23, w24, w25) := by
  have v6 := q6.u32; have v7 := q7.u32; have v16 := q16.u32; have v17 := q17.u32
  have m6 : w64 (Int.tmod w6 65536) = w6 % 65536 := by rw [show (65536 : Int) = ((65536 : Nat) : Int) from rfl, tmod_of v6.1, w64_of (by omega) (by omega)]
  have d6 : w64 (w32 (Int.tdiv w6 65536)) = w6 / 65536 := by rw [show (65536 : Int) = ((65536 : Nat) : Int) from rfl, tdiv_of v6.1, w32_of (by omega) (by omega), w64_of (by omega) (by omega)]
  have t6 : w64 w7 = w7 := w64_of (by omega) (by omega)
  have m16 : w64 (Int.tmod w16 65536) = w16 % 65536 := by rw [show (65536 : Int) = ((65536 : Nat) : Int) from rfl, tmod_of v16.1, w64_of (by omega) (by omega)]
  have d16 : w64 (w32 (Int.tdiv w16 65536)) = w16 / 65536 := by rw [show (65536 : Int) = ((65536 : Nat) : Int) from rfl, tdiv_of v16.1, w32_of (by omega) (by omega), w64_of (by omega) (by omega)]
  have t16 : w64 w17 = w17 := w64_of (by omega) (by omega)
  unfold ref34_Take.L10
  have s1 : (ref34_Take.l10 [w0, w1, w2, w3, w4, w5, w6, w7, w8, w9, w10, w11, w12, w13, w14, w15, w16, w17, w18, w19, w20, w21, w22, w23, w24, w25] s0.m s0.a s0.l s0.f s0.t s0.c0.x0 s0.c0.x1 s0.c0.x2 s0.c0.x3 s0.c0.x4 s0.c0.x5 s0.c0.x6 s0.c0.x7 s0.c0.x8 s0.c0.x9 s0.c0.x10 s0.c1.x0 s0.c1.x1 s0.c1.x2 s0.c1.x3 s0.c1.x4 s0.c1.x5 s0.c1.x6 s0.c1.x7 s0.c1.x8 s0.c1.x9 s0.c1.x10 s0.r s0.g s0.r2 s0.g2 b0 b1 b2 bf b4 b27 b28 b29 b30 0 0 0 0 0 0 0 0 0 0 0 0 0 0 0 0 0 0 0 0 0 0 0 ).run = some (.inl (1, w6 % 65536, w6 / 65536, w7, w8, w9, w10, w11, w12, w13, w14, w15, 0, 0, 0, 0, 0, 0, 0, 0, 0, 0, 0)) := by
    simp only [ref34_Take.l10]
    rw [bb_pos (by rfl), dd_pos (by decide), opt_some (x := w6) (by rfl), dd_pos (by decide), opt_some (x := w6) (by rfl), dd_pos (by decide), opt_some (x := w7) (by rfl), dd_neg (by decide), dd_pos (by rfl), m6, d6, t6, opt_some (x := (w8, w9, w10, w11, w12, w13, w14, w15, 0, 0, 0, 0, 0, 0, 0, 0)) (by exact ref34_L15_0 s0 b0 b1 b2 bf b4 (w6 % 65536) (w6 / 65536) w7 0 0 0 b27 b28 b29 b30), Tw.run_ret]
    rfl
  have s2 : (ref34_Take.l10 [w0, w1, w2, w3, w4, w5, w6, w7, w8, w9, w10, w11, w12, w13, w14, w15, w16, w17, w18, w19, w20, w21, w22, w23, w24, w25] s0.m s0.a s0.l s0.f s0.t s0.c0.x0 s0.c0.x1 s0.c0.x2 s0.c0.x3 s0.c0.x4 s0.c0.x5 s0.c0.x6 s0.c0.x7 s0.c0.x8 s0.c0.x9 s0.c0.x10 s0.c1.x0 s0.c1.x1 s0.c1.x2 s0.c1.x3 s0.c1.x4 s0.c1.x5 s0.c1.x6 s0.c1.x7 s0.c1.x8 s0.c1.x9 s0.c1.x10 s0.r s0.g s0.r2 s0.g2 b0 b1 b2 bf b4 b27 b28 b29 b30 1 (w6 % 65536) (w6 / 65536) w7 w8 w9 w10 w11 w12 w13 w14 w15 0 0 0 0 0 0 0 0 0 0 0 ).run = some (.inl (2, w6 % 65536, w6 / 65536, w7, w8, w9, w10, w11, w12, w13, w14, w15, w16 % 65536, w16 / 65536, w17, w18, w19, w20, w21, w22, w23, w24, w25)) := by
    simp only [ref34_Take.l10]
    rw [bb_pos (by rfl), dd_pos (by decide), opt_some (x := w16) (by rfl), dd_pos (by decide), opt_some (x := w16) (by rfl), dd_pos (by decide), opt_some (x := w17) (by rfl), dd_pos (by rfl), m16, d16, t16, opt_some (x := (w8, w9, w10, w11, w12, w13, w14, w15, w18, w19, w20, w21, w22, w23, w24, w25)) (by exact ref34_L15_1 s0 b0 b1 b2 bf b4 (w6 % 65536) (w6 / 65536) w7 (w16 % 65536) (w16 / 65536) w17 b27 b28 b29 b30), Tw.run_ret]
    rfl
  have s3 : (ref34_Take.l10 [w0, w1, w2, w3, w4, w5, w6, w7, w8, w9, w10, w11, w12, w13, w14, w15, w16, w17, w18, w19, w20, w21, w22, w23, w24, w25] s0.m s0.a s0.l s0.f s0.t s0.c0.x0 s0.c0.x1 s0.c0.x2 s0.c0.x3 s0.c0.x4 s0.c0.x5 s0.c0.x6 s0.c0.x7 s0.c0.x8 s0.c0.x9 s0.c0.x10 s0.c1.x0 s0.c1.x1 s0.c1.x2 s0.c1.x3 s0.c1.x4 s0.c1.x5 s0.c1.x6 s0.c1.x7 s0.c1.x8 s0.c1.x9 s0.c1.x10 s0.r s0.g s0.r2 s0.g2 b0 b1 b2 bf b4 b27 b28 b29 b30 2 (w6 % 65536) (w6 / 65536) w7 w8 w9 w10 w11 w12 w13 w14 w15 (w16 % 65536) (w16 / 65536) w17 w18 w19 w20 w21 w22 w23 w24 w25).run = some (.inr (w6 % 65536, w6 / 65536, w7, w8, w9, w10, w11, w12, w13, w14, w15, w16 % 65536, w16 / 65536, w17, w18, w19, w20, w21, w22, w23, w24, w25)) := by
    simp only [ref34_Take.l10]
    rw [bb_neg (by rfl), Tw.run_ret]
  exact (Lp_next s1).trans ((Lp_next s2).trans (Lp_end s3))
omit q8 q9 q10 q11 q12 q13 q14 q15 q18 q19 q20 q21 q22 q23 q24 q25 in
theorem ref34_Take_26 : ref34_Take.c [w0, w1, w2, w3, w4, w5, w6, w7, w8, w9, w10, w11, w12, w13, w14, w15, w16, w17, w18, w19, w20, w21, w22, w23, w24, w25] = some (if w0 < 33554432 ∧ RightS (decB (decide (w0 ≥ 16777216)) w0 w1 w2 w3 w4 w5 w6 w7 w8 w9 w10 w11 w12 w13 w14 w15 w16 w17 w18 w19 w20 w21 w22 w23 w24 w25) then (decB (decide (w0 ≥ 16777216)) w0 w1 w2 w3 w4 w5 w6 w7 w8 w9 w10 w11 w12 w13 w14 w15 w16 w17 w18 w19 w20 w21 w22 w23 w24 w25).out 0 else sa0.out 4) := by
  have v0 := q0.u32; have v1 := q1.u32; have v2 := q2.u32; have v3 := q3.u32; have v4 := q4.u32; have v5 := q5.u32
  simp only [ref34_Take.c, ref34_Take.t]
  rw [bb_neg (by rfl), opt_some (x := w0) (by rfl)]
  by_cases h : w0 ≥ 33554432
  · rw [bb_pos (decide_eq_true h), Tw.run_ret, if_neg (by omega)]
    rfl
  have e0 : w64 (Int.tmod w0 256) = w0 % 256 := by rw [show (256 : Int) = ((256 : Nat) : Int) from rfl, tmod_of v0.1, w64_of (by omega) (by omega)]
  have e1 : w64 (Int.tmod (w32 (Int.tdiv w0 256)) 256) = w0 / 256 % 256 := by rw [show (256 : Int) = ((256 : Nat) : Int) from rfl, tdiv_of v0.1, w32_of (by omega) (by omega), tmod_of (by omega), w64_of (by omega) (by omega)]
  have e2 : w64 (Int.tmod (w32 (Int.tdiv w0 65536)) 256) = w0 / 65536 % 256 := by rw [show (65536 : Int) = ((65536 : Nat) : Int) from rfl, show (256 : Int) = ((256 : Nat) : Int) from rfl, tdiv_of v0.1, w32_of (by omega) (by omega), tmod_of (by omega), w64_of (by omega) (by omega)]
  have f1 : w64 w1 = w1 := w64_of (by omega) (by omega)
  have f2 : w64 w2 = w2 := w64_of (by omega) (by omega)
  have f3 : w64 w3 = w3 := w64_of (by omega) (by omega)
  have f4 : w64 (w64 w4 - 1) = w4 - 1 := by rw [w64_of (n := w4) (by omega) (by omega), w64_of (by omega) (by omega)]
  have f5 : w64 w5 = w5 := w64_of (by omega) (by omega)
  rw [bb_neg (decide_eq_false h), opt_some (x := w0) (by rfl), opt_some (x := w0) (by rfl), opt_some (x := w0) (by rfl), opt_some (x := w0) (by rfl), opt_some (x := w1) (by rfl), opt_some (x := w2) (by rfl), opt_some (x := w3) (by rfl), opt_some (x := w4) (by rfl), opt_some (x := w5) (by rfl), e0, e1, e2, f1, f2, f3, f4, f5,
    opt_some (x := (w6 % 65536, w6 / 65536, w7, w8, w9, w10, w11, w12, w13, w14, w15, w16 % 65536, w16 / 65536, w17, w18, w19, w20, w21, w22, w23, w24, w25)) (by exact ref34_L10_eq q6 q7 q16 q17 sa0 ..), opt_some (x := decide (RightS (decB (decide (w0 ≥ 16777216)) w0 w1 w2 w3 w4 w5 w6 w7 w8 w9 w10 w11 w12 w13 w14 w15 w16 w17 w18 w19 w20 w21 w22 w23 w24 w25))) (by exact ref34_Right_eq (decB (decide (w0 ≥ 16777216)) w0 w1 w2 w3 w4 w5 w6 w7 w8 w9 w10 w11 w12 w13 w14 w15 w16 w17 w18 w19 w20 w21 w22 w23 w24 w25))]
  by_cases hr : RightS (decB (decide (w0 ≥ 16777216)) w0 w1 w2 w3 w4 w5 w6 w7 w8 w9 w10 w11 w12 w13 w14 w15 w16 w17 w18 w19 w20 w21 w22 w23 w24 w25)
  · rw [decide_eq_true hr, bb_neg (by rfl), Tw.run_ret, if_pos ⟨by omega, hr⟩]; rfl
  · rw [decide_eq_false hr, bb_pos (by rfl), Tw.run_ret, if_neg (fun g => hr g.2)]; rfl
omit q7 q8 q9 q10 q11 q12 q13 q14 q15 q17 q18 q19 q20 q21 q22 q23 q24 q25 in
theorem lay_decB (h : w0 < 33554432) : layB (decB (decide (w0 ≥ 16777216)) w0 w1 w2 w3 w4 w5 w6 w7 w8 w9 w10 w11 w12 w13 w14 w15 w16 w17 w18 w19 w20 w21 w22 w23 w24 w25) = [w0, w1, w2, w3, w4, w5, w6, w7, w8, w9, w10, w11, w12, w13, w14, w15, w16, w17, w18, w19, w20, w21, w22, w23, w24, w25] := by
  have v0 := q0.u32; have v1 := q1.u32; have v2 := q2.u32; have v3 := q3.u32; have v4 := q4.u32; have v5 := q5.u32; have v6 := q6.u32; have v16 := q16.u32
  have e0 : w0 % 256 + 256 * (w0 / 256 % 256) + 65536 * (w0 / 65536 % 256) + fallN (decide (w0 ≥ 16777216)) = w0 := by
    by_cases g : w0 ≥ 16777216
    · rw [decide_eq_true g]; show _ + 16777216 = w0; omega
    · rw [decide_eq_false g]; show _ + 0 = w0; omega
  unfold layB decB
  simp only
  rw [e0, show w6 % 65536 + 65536 * (w6 / 65536) = w6 by omega, show w16 % 65536 + 65536 * (w16 / 65536) = w16 by omega, show w4 - 1 + 1 = w4 by omega]
omit q8 q9 q10 q11 q12 q13 q14 q15 q18 q19 q20 q21 q22 q23 q24 q25 in
theorem book_Take_26 : book_Take.c [w0, w1, w2, w3, w4, w5, w6, w7, w8, w9, w10, w11, w12, w13, w14, w15, w16, w17, w18, w19, w20, w21, w22, w23, w24, w25] = some (if w0 < 33554432 ∧ RightS (decB (decide (w0 ≥ 16777216)) w0 w1 w2 w3 w4 w5 w6 w7 w8 w9 w10 w11 w12 w13 w14 w15 w16 w17 w18 w19 w20 w21 w22 w23 w24 w25) then (decB (decide (w0 ≥ 16777216)) w0 w1 w2 w3 w4 w5 w6 w7 w8 w9 w10 w11 w12 w13 w14 w15 w16 w17 w18 w19 w20 w21 w22 w23 w24 w25).out 0 else sa0.out 4) := by
  have v0 := q0.u32; have v1 := q1.u32; have v2 := q2.u32; have v3 := q3.u32; have v4 := q4.u32; have v5 := q5.u32
  simp only [book_Take.c, book_Take.t]
  have f0 : w64 w0 = w0 := w64_of (by omega) (by omega)
  have e0 : bAnd .i64 w0 255 = w0 % 256 := and255 (by omega)
  have e1 : bAnd .i64 (bShr .i64 w0 8) 255 = w0 / 256 % 256 := by rw [show (8 : Int) = ((8 : Nat) : Int) from rfl, shr64 w0 8 (by omega), and255 (by omega)]; rfl
  have e2 : bAnd .i64 (bShr .i64 w0 16) 255 = w0 / 65536 % 256 := by rw [show (16 : Int) = ((16 : Nat) : Int) from rfl, shr64 w0 16 (by omega), and255 (by omega)]; rfl
  have e3 : bShr .i64 w0 24 = w0 / 16777216 := by rw [show (24 : Int) = ((24 : Nat) : Int) from rfl, shr64 w0 24 (by omega)]; rfl
  have f1 : w64 w1 = w1 := w64_of (by omega) (by omega)
  have f2 : w64 w2 = w2 := w64_of (by omega) (by omega)
  have f3 : w64 w3 = w3 := w64_of (by omega) (by omega)
  have f4 : w64 (w64 w4 - 1) = w4 - 1 := by rw [w64_of (n := w4) (by omega) (by omega), w64_of (by omega) (by omega)]
  have f5 : w64 w5 = w5 := w64_of (by omega) (by omega)
  rw [bb_neg (by rfl), opt_some (x := w0) (by rfl), opt_some (x := w1) (by rfl), opt_some (x := w2) (by rfl), opt_some (x := w3) (by rfl), opt_some (x := w4) (by rfl), opt_some (x := w5) (by rfl), f0, e0, e1, e2, e3, f1, f2, f3, f4, f5,
    opt_some (x := (w6 % 65536, w6 / 65536, w7, w8, w9, w10, w11, w12, w13, w14, w15, w16 % 65536, w16 / 65536, w17, w18, w19, w20, w21, w22, w23, w24, w25)) (by exact book_L7_eq q6 q7 q16 q17 sa0 ..), opt_some (x := if RightS (decB (w0 / 16777216 == 1) w0 w1 w2 w3 w4 w5 w6 w7 w8 w9 w10 w11 w12 w13 w14 w15 w16 w17 w18 w19 w20 w21 w22 w23 w24 w25) then (0, layB (decB (w0 / 16777216 == 1) w0 w1 w2 w3 w4 w5 w6 w7 w8 w9 w10 w11 w12 w13 w14 w15 w16 w17 w18 w19 w20 w21 w22 w23 w24 w25)) else (2, [])) (by exact book_Lay_eq (decB (w0 / 16777216 == 1) w0 w1 w2 w3 w4 w5 w6 w7 w8 w9 w10 w11 w12 w13 w14 w15 w16 w17 w18 w19 w20 w21 w22 w23 w24 w25))]
  by_cases h : w0 < 33554432
  · have ef : (w0 / 16777216 == 1) = decide (w0 ≥ 16777216) := by
      rw [Bool.eq_iff_iff, beq_iff_eq, decide_eq_true_iff]
      omega
    have el := lay_decB q0 q1 q2 q3 q4 q5 q6 q16 h (w7 := w7) (w17 := w17) (w8 := w8) (w9 := w9) (w10 := w10) (w11 := w11) (w12 := w12) (w13 := w13) (w14 := w14) (w15 := w15) (w18 := w18) (w19 := w19) (w20 := w20) (w21 := w21) (w22 := w22) (w23 := w23) (w24 := w24) (w25 := w25)
    rw [ef]
    by_cases hr : RightS (decB (decide (w0 ≥ 16777216)) w0 w1 w2 w3 w4 w5 w6 w7 w8 w9 w10 w11 w12 w13 w14 w15 w16 w17 w18 w19 w20 w21 w22 w23 w24 w25)
    · rw [if_pos hr, if_pos ⟨h, hr⟩, bb_neg (by rfl), el, opt_some (equal32_eq (by exact (by decide : 26 ≤ 1000)) (by exact (by decide : 26 ≤ 1000))), bb_neg (by simp), Tw.run_ret]; rfl
    · rw [if_neg hr, if_neg (fun g => hr g.2), bb_pos (by rfl), Tw.run_ret]; rfl
  · rw [if_neg (c := w0 < 33554432 ∧ _) (fun g => h g.1)]
    by_cases hr : RightS (decB (w0 / 16777216 == 1) w0 w1 w2 w3 w4 w5 w6 w7 w8 w9 w10 w11 w12 w13 w14 w15 w16 w17 w18 w19 w20 w21 w22 w23 w24 w25)
    · have hne : ¬ layB (decB (w0 / 16777216 == 1) w0 w1 w2 w3 w4 w5 w6 w7 w8 w9 w10 w11 w12 w13 w14 w15 w16 w17 w18 w19 w20 w21 w22 w23 w24 w25) = [w0, w1, w2, w3, w4, w5, w6, w7, w8, w9, w10, w11, w12, w13, w14, w15, w16, w17, w18, w19, w20, w21, w22, w23, w24, w25] := fun g => by
        have ef : (w0 / 16777216 == 1) = false := by rw [beq_eq_false_iff_ne]; omega
        have g0 := congrArg (fun l => l.getD 0 0) g
        have g1 : w0 % 256 + 256 * (w0 / 256 % 256) + 65536 * (w0 / 65536 % 256) + fallN (w0 / 16777216 == 1) = w0 := g0
        rw [ef] at g1
        have g2 : w0 % 256 + 256 * (w0 / 256 % 256) + 65536 * (w0 / 65536 % 256) + 0 = w0 := g1
        omega
      rw [if_pos hr, bb_neg (by rfl), opt_some (equal32_eq (by exact (by decide : 26 ≤ 1000)) (by exact (by decide : 26 ≤ 1000))), bb_pos (by rw [decide_eq_false (by exact hne)]; rfl), Tw.run_ret]; rfl
    · rw [if_neg hr, bb_pos (by rfl), Tw.run_ret]; rfl
end
theorem take_both {w : List Int} (hw : Words w) : ∃ v : T32, book_Take.c w = some v ∧ ref34_Take.c w = some v := by
  by_cases h : w.length = 26
  rotate_left
  · refine ⟨sa0.out 4, ?_, ?_⟩
    · simp only [book_Take.c, book_Take.t]
      rw [bb_pos (by rw [bne_iff_ne]; omega), Tw.run_ret]; rfl
    · simp only [ref34_Take.c, ref34_Take.t]
      rw [bb_pos (by rw [bne_iff_ne]; omega), Tw.run_ret]; rfl
  obtain ⟨w0, w1, w2, w3, w4, w5, w6, w7, w8, w9, w10, w11, w12, w13, w14, w15, w16, w17, w18, w19, w20, w21, w22, w23, w24, w25, rfl⟩ := len26 h
  exact ⟨_, book_Take_26 (hw w0 (by simp)) (hw w1 (by simp)) (hw w2 (by simp)) (hw w3 (by simp)) (hw w4 (by simp)) (hw w5 (by simp)) (hw w6 (by simp)) (hw w7 (by simp)) (hw w16 (by simp)) (hw w17 (by simp)), ref34_Take_26 (hw w0 (by simp)) (hw w1 (by simp)) (hw w2 (by simp)) (hw w3 (by simp)) (hw w4 (by simp)) (hw w5 (by simp)) (hw w6 (by simp)) (hw w7 (by simp)) (hw w16 (by simp)) (hw w17 (by simp))⟩
/-- What a card's words are. -/
def CdW (c : Cd) : Prop := InR .u32 c.x3 ∧ InR .u32 c.x4 ∧ InR .u32 c.x5 ∧ InR .u32 c.x6 ∧ InR .u32 c.x7 ∧ InR .u32 c.x8 ∧ InR .u32 c.x9 ∧ InR .u32 c.x10
theorem layB_words {s : SA} (h : RightS s) (h0 : CdW s.c0) (h1 : CdW s.c1) : Words (layB s) := by
  have hb := bnd_of h
  have b1 := hb.m; have b2 := hb.a; have b3 := hb.l; have b4 := hb.t; have b5 := hb.r; have b6 := hb.g; have b7 := hb.r2; have b8 := hb.g2; have b9 := hb.c0; have b10 := hb.c1
  have hf : 0 ≤ fallN s.f ∧ fallN s.f ≤ 16777216 := by unfold fallN; split <;> omega
  unfold CdW at h0 h1
  unfold layB
  refine words_cons (inR_u32 (by omega)) (words_cons (inR_u32 (by omega)) (words_cons (inR_u32 (by omega)) (words_cons (inR_u32 (by omega)) (words_cons (inR_u32 (by omega)) (words_cons (inR_u32 (by omega)) (words_cons (inR_u32 (by omega)) (words_cons (inR_u32 (by omega)) (words_cons h0.1 (words_cons h0.2.1 (words_cons h0.2.2.1 (words_cons h0.2.2.2.1 (words_cons h0.2.2.2.2.1 (words_cons h0.2.2.2.2.2.1 (words_cons h0.2.2.2.2.2.2.1 (words_cons h0.2.2.2.2.2.2.2 (words_cons (inR_u32 (by omega)) (words_cons (inR_u32 (by omega)) (words_cons h1.1 (words_cons h1.2.1 (words_cons h1.2.2.1 (words_cons h1.2.2.2.1 (words_cons h1.2.2.2.2.1 (words_cons h1.2.2.2.2.2.1 (words_cons h1.2.2.2.2.2.2.1 (words_cons h1.2.2.2.2.2.2.2 (words_nil))))))))))))))))))))))))))
theorem take_lay {s : SA} (h : RightS s) (h0 : CdW s.c0) (h1 : CdW s.c1) : book_Take.c (layB s) = some (s.out 0) := by
  have hw := layB_words h h0 h1
  have hb := bnd_of h
  have b1 := hb.m; have b2 := hb.a; have b3 := hb.l; have b4 := hb.t; have b5 := hb.r; have b6 := hb.g; have b7 := hb.r2; have b8 := hb.g2; have b9 := hb.c0; have b10 := hb.c1
  have hf : 0 ≤ fallN s.f ∧ fallN s.f ≤ 16777216 := by unfold fallN; split <;> omega
  have hh : (s.m + 256 * s.a + 65536 * s.l + fallN s.f) < 33554432 := by omega
  have hff : decide (s.m + 256 * s.a + 65536 * s.l + fallN s.f ≥ 16777216) = s.f := by
    cases hs : s.f with
    | true => exact decide_eq_true (by show _ + 16777216 ≥ _; omega)
    | false => exact decide_eq_false (by show ¬ _ + 0 ≥ _; omega)
  have hd : decB (decide (s.m + 256 * s.a + 65536 * s.l + fallN s.f ≥ 16777216)) (s.m + 256 * s.a + 65536 * s.l + fallN s.f) s.t s.r s.g (s.r2 + 1) s.g2 (s.c0.x0 + 65536 * s.c0.x1) s.c0.x2 s.c0.x3 s.c0.x4 s.c0.x5 s.c0.x6 s.c0.x7 s.c0.x8 s.c0.x9 s.c0.x10 (s.c1.x0 + 65536 * s.c1.x1) s.c1.x2 s.c1.x3 s.c1.x4 s.c1.x5 s.c1.x6 s.c1.x7 s.c1.x8 s.c1.x9 s.c1.x10 = s := by
    rw [hff]
    have hfm : fallN s.f = 0 ∨ fallN s.f = 16777216 := by unfold fallN; split <;> simp
    unfold decB
    obtain ⟨m, a, l, f, t, ⟨x0, x1, x2, x3, x4, x5, x6, x7, x8, x9, x10⟩, ⟨y0, y1, y2, y3, y4, y5, y6, y7, y8, y9, y10⟩, r, g, r2, g2⟩ := s
    simp only at *
    rw [show (m + 256 * a + 65536 * l + fallN f) % 256 = m by omega, show (m + 256 * a + 65536 * l + fallN f) / 256 % 256 = a by omega, show (m + 256 * a + 65536 * l + fallN f) / 65536 % 256 = l by omega,
      show (x0 + 65536 * x1) % 65536 = x0 by omega, show (x0 + 65536 * x1) / 65536 = x1 by omega, show (y0 + 65536 * y1) % 65536 = y0 by omega, show (y0 + 65536 * y1) / 65536 = y1 by omega, show r2 + 1 - 1 = r2 by omega]
  have key := book_Take_26 (w0 := s.m + 256 * s.a + 65536 * s.l + fallN s.f) (w1 := s.t) (w2 := s.r) (w3 := s.g) (w4 := s.r2 + 1) (w5 := s.g2) (w6 := s.c0.x0 + 65536 * s.c0.x1) (w7 := s.c0.x2) (w8 := s.c0.x3) (w9 := s.c0.x4) (w10 := s.c0.x5) (w11 := s.c0.x6) (w12 := s.c0.x7) (w13 := s.c0.x8) (w14 := s.c0.x9) (w15 := s.c0.x10) (w16 := s.c1.x0 + 65536 * s.c1.x1) (w17 := s.c1.x2) (w18 := s.c1.x3) (w19 := s.c1.x4) (w20 := s.c1.x5) (w21 := s.c1.x6) (w22 := s.c1.x7) (w23 := s.c1.x8) (w24 := s.c1.x9) (w25 := s.c1.x10) (hw _ (by simp [layB])) (hw _ (by simp [layB])) (hw _ (by simp [layB])) (hw _ (by simp [layB])) (hw _ (by simp [layB])) (hw _ (by simp [layB])) (hw _ (by simp [layB])) (hw _ (by simp [layB])) (hw _ (by simp [layB])) (hw _ (by simp [layB]))
  rw [hd, if_pos ⟨hh, h⟩] at key
  exact key
theorem awake34 : law34_awake.c = some true := by
  have hr : RightS (⟨0, 1, 0, false, 0, cd0, ⟨2, 3, 1, 0, 0, 0, 0, 0, 0, 0, 0⟩, 4, 5, -1, 0⟩ : SA) := by decide
  have hn : ¬ RightS sa0 := by decide
  have hl := book_Lay_eq (⟨0, 1, 0, false, 0, cd0, ⟨2, 3, 1, 0, 0, 0, 0, 0, 0, 0, 0⟩, 4, 5, -1, 0⟩ : SA)
  rw [if_pos hr] at hl
  simp only [law34_awake.c, law34_awake.t]
  rw [opt_some (x := (0, layB ⟨0, 1, 0, false, 0, cd0, ⟨2, 3, 1, 0, 0, 0, 0, 0, 0, 0, 0⟩, 4, 5, -1, 0⟩)) (by exact hl), bb_pos (by rfl), dd_pos ⟨by decide, by exact (by decide : (0 : Int) < 26)⟩, opt_some (x := 256) (by rfl), bb_pos (by rfl), dd_pos ⟨by decide, by exact (by decide : (2 : Int) < 26)⟩, opt_some (x := 4) (by rfl), bb_pos (by rfl), dd_pos ⟨by decide, by exact (by decide : (3 : Int) < 26)⟩, opt_some (x := 5) (by rfl), bb_pos (by rfl),
    dd_pos ⟨by decide, by exact (by decide : (4 : Int) < 26)⟩, opt_some (x := 0) (by rfl), bb_pos (by rfl), bb_pos (by rfl), opt_some (x := true) (by rw [← decide_eq_true hr]; exact book_Right_eq ⟨0, 1, 0, false, 0, cd0, ⟨2, 3, 1, 0, 0, 0, 0, 0, 0, 0, 0⟩, 4, 5, -1, 0⟩), bb_pos (by rfl), opt_some (x := false) (by rw [← decide_eq_false hn]; exact book_Right_eq sa0), Tw.run_ret]
  rfl
theorem out_ext {s t : SA} : s.out 0 = t.out 0 → s = t := by
  intro h
  obtain ⟨m, a, l, f, t', ⟨x0, x1, x2, x3, x4, x5, x6, x7, x8, x9, x10⟩, ⟨y0, y1, y2, y3, y4, y5, y6, y7, y8, y9, y10⟩, r, g, r2, g2⟩ := s
  obtain ⟨m', a', l', f', t'', ⟨x0', x1', x2', x3', x4', x5', x6', x7', x8', x9', x10'⟩, ⟨y0', y1', y2', y3', y4', y5', y6', y7', y8', y9', y10'⟩, r', g', r2', g2'⟩ := t
  simp only [SA.out, Prod.mk.injEq] at h
  simp only [SA.mk.injEq, Cd.mk.injEq]
  simp only [h, and_self]

end Go.Proofs.Ytcnomgpbkimmeaa.Pure
