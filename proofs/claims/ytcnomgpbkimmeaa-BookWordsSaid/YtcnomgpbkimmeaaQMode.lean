/- Layers 34, 35: states, which may be, and what comes of them. (printed by mkmode.py) -/
import Derived.Test.YtcnomgpbkimmeaaQX
import Derived.Test.YtcnomgpbkimmeaaFbook
import Derived.Test.YtcnomgpbkimmeaaFref34
namespace Go.Proofs.Ytcnomgpbkimmeaa.Pure
open Go Go.Proofs.Ytcnomgpbkimmeaa.Va
set_option linter.unusedVariables false
set_option linter.unusedSimpArgs false

/-- A card. -/
structure Cd where
  x0 : Int
  x1 : Int
  x2 : Int
  x3 : Int
  x4 : Int
  x5 : Int
  x6 : Int
  x7 : Int
  x8 : Int
  x9 : Int
  x10 : Int
def Cd.ap {β : Type} (c : Cd) (f : Int → Int → Int → Int → Int → Int → Int → Int → Int → Int → Int → β) : β := f c.x0 c.x1 c.x2 c.x3 c.x4 c.x5 c.x6 c.x7 c.x8 c.x9 c.x10
def cd0 : Cd := ⟨0, 0, 0, 0, 0, 0, 0, 0, 0, 0, 0⟩
/-- A state. -/
structure SA where
  m : Int
  a : Int
  l : Int
  f : Bool
  t : Int
  c0 : Cd
  c1 : Cd
  r : Int
  g : Int
  r2 : Int
  g2 : Int
def SA.ap {β : Type} (s : SA) (f : Int → Int → Int → Bool → Int → Int → Int → Int → Int → Int → Int → Int → Int → Int → Int → Int → Int → Int → Int → Int → Int → Int → Int → Int → Int → Int → Int → Int → Int → Int → Int →  β) : β := f s.m s.a s.l s.f s.t s.c0.x0 s.c0.x1 s.c0.x2 s.c0.x3 s.c0.x4 s.c0.x5 s.c0.x6 s.c0.x7 s.c0.x8 s.c0.x9 s.c0.x10 s.c1.x0 s.c1.x1 s.c1.x2 s.c1.x3 s.c1.x4 s.c1.x5 s.c1.x6 s.c1.x7 s.c1.x8 s.c1.x9 s.c1.x10 s.r s.g s.r2 s.g2
abbrev T32 : Type := Int × (Int × (Int × (Bool × (Int × (Int × (Int × (Int × (Int × (Int × (Int × (Int × (Int × (Int × (Int × (Int × (Int × (Int × (Int × (Int × (Int × (Int × (Int × (Int × (Int × (Int × (Int × (Int × (Int × (Int × (Int × Int))))))))))))))))))))))))))))))
def SA.out (s : SA) (e : Int) : T32 := (s.m, s.a, s.l, s.f, s.t, s.c0.x0, s.c0.x1, s.c0.x2, s.c0.x3, s.c0.x4, s.c0.x5, s.c0.x6, s.c0.x7, s.c0.x8, s.c0.x9, s.c0.x10, s.c1.x0, s.c1.x1, s.c1.x2, s.c1.x3, s.c1.x4, s.c1.x5, s.c1.x6, s.c1.x7, s.c1.x8, s.c1.x9, s.c1.x10, s.r, s.g, s.r2, s.g2, e)
def sa0 : SA := ⟨0, 0, 0, false, 0, cd0, cd0, 0, 0, 0, 0⟩

/-- May a card be? -/
def ThereC (c : Cd) : Prop := (1 ≤ c.x0 ∧ c.x0 ≤ 65535) ∧ (1 ≤ c.x1 ∧ c.x1 ≤ 65535) ∧ (1 ≤ c.x2 ∧ c.x2 ≤ 131072)
instance (c : Cd) : Decidable (ThereC c) := by unfold ThereC; infer_instance
def NoneC (c : Cd) : Prop := c.x0 = 0 ∧ c.x1 = 0 ∧ c.x2 = 0 ∧ c.x3 = 0 ∧ c.x4 = 0 ∧ c.x5 = 0 ∧ c.x6 = 0 ∧ c.x7 = 0 ∧ c.x8 = 0 ∧ c.x9 = 0 ∧ c.x10 = 0
instance (c : Cd) : Decidable (NoneC c) := by unfold NoneC; infer_instance
def Lone (s : SA) : Prop := s.r2 = -1 ∧ s.g2 = 0
instance (s : SA) : Decidable (Lone s) := by unfold Lone; infer_instance
def Both (s : SA) : Prop := (0 ≤ s.r2 ∧ s.r2 ≤ 127) ∧ (1 ≤ s.g2 ∧ s.g2 ≤ 1073741823) ∧ s.r2 ≠ s.r
instance (s : SA) : Decidable (Both s) := by unfold Both; infer_instance
/-- What a mode asks. -/
def BodyS (s : SA) (o : Cd) : Prop :=
  (s.m = 0 ∧ s.l = 0 ∧ s.t = 0 ∧ Lone s ∧ ((s.f = true ∧ ThereC o) ∨ (s.f = false ∧ NoneC o))) ∨ (s.m = 1 ∧ s.l = 0 ∧ s.f = false ∧ (1 ≤ s.t ∧ s.t ≤ 131072) ∧ NoneC o ∧ Lone s) ∨
  (s.m = 2 ∧ s.l = 0 ∧ s.t = 0 ∧ s.f = false ∧ ThereC o ∧ Lone s) ∨ (s.m = 3 ∧ s.l = 0 ∧ s.t = 0 ∧ s.f = false ∧ ThereC o ∧ Both s) ∨ (s.m = 4 ∧ (0 ≤ s.l ∧ s.l ≤ 9) ∧ s.f = false ∧ s.t = 0 ∧ ThereC o ∧ Both s)
instance (s : SA) (o : Cd) : Decidable (BodyS s o) := by unfold BodyS; infer_instance
def SA.cur (s : SA) : Cd := if s.a = 1 then s.c1 else s.c0
def SA.oth (s : SA) : Cd := if s.a = 1 then s.c0 else s.c1
/-- May a state be? -/
def RightS (s : SA) : Prop := (s.a = 0 ∨ s.a = 1) ∧ ThereC s.cur ∧ (0 ≤ s.r ∧ s.r ≤ 127) ∧ (1 ≤ s.g ∧ s.g ≤ 1073741823) ∧ BodyS s s.oth
instance (s : SA) : Decidable (RightS s) := by unfold RightS; infer_instance

theorem sd {b : Bool} {P : Prop} [Decidable P] (h : b = true ↔ P) : some b = some (decide P) := by
  congr 1
  rw [Bool.eq_iff_iff, decide_eq_true_iff]
  exact h
theorem book_in_eq (n lo hi : Int) : book_in.c n lo hi = some (decide (lo ≤ n ∧ n ≤ hi)) := by
  simp only [book_in.c, book_in.t, Tw.run_bb, Tw.run_ret, decide_eq_true_eq, ge_iff_le]
  split <;> (apply sd; (try simp only [decide_eq_true_eq]); grind)
theorem ref34_between_eq (n lo hi : Int) : ref34_between.c n lo hi = some (decide (lo ≤ n ∧ n ≤ hi)) := by
  simp only [ref34_between.c, ref34_between.t, Tw.run_bb, Tw.run_ret, decide_eq_true_eq, ge_iff_le]
  split <;> (apply sd; (try simp only [decide_eq_true_eq]); grind)
theorem book_there_eq (c : Cd) : book_there.c c.x0 c.x1 c.x2 c.x3 c.x4 c.x5 c.x6 c.x7 c.x8 c.x9 c.x10 = some (decide (ThereC c)) := by
  simp only [book_there.c, book_there.t, Tw.run_bb, Tw.run_ret, Tw.run_opt, book_in_eq, Option.bind_some, decide_eq_true_eq, ThereC]
  repeat' split
  all_goals (apply sd; (try simp only [decide_eq_true_eq, bne_iff_ne, beq_iff_eq]); grind)
theorem ref34_there_eq (c : Cd) : ref34_there.c c.x0 c.x1 c.x2 c.x3 c.x4 c.x5 c.x6 c.x7 c.x8 c.x9 c.x10 = some (decide (ThereC c)) := by
  simp only [ref34_there.c, ref34_there.t, Tw.run_bb, Tw.run_ret, Tw.run_opt, ref34_between_eq, Option.bind_some, decide_eq_true_eq, ThereC]
  repeat' split
  all_goals (apply sd; (try simp only [decide_eq_true_eq, bne_iff_ne, beq_iff_eq]); grind)
theorem none_beq (c : Cd) : ((c.x0 == 0) && ((c.x1 == 0) && ((c.x2 == 0) && ((c.x3 == 0) && ((c.x4 == 0) && ((c.x5 == 0) && ((c.x6 == 0) && ((c.x7 == 0) && ((c.x8 == 0) && ((c.x9 == 0) && ((c.x10 == 0) && true))))))))))) = decide (NoneC c) := by
  rw [Bool.eq_iff_iff, decide_eq_true_iff]
  simp only [Bool.and_eq_true, beq_iff_eq, NoneC, and_true]
theorem book_none_eq (c : Cd) : book_none.c c.x0 c.x1 c.x2 c.x3 c.x4 c.x5 c.x6 c.x7 c.x8 c.x9 c.x10 = some (decide (NoneC c)) := by
  simp only [book_none.c, book_none.t, Tw.run_ret, none_beq]
theorem book_lone_eq (s : SA) : book_lone.c s.m s.a s.l s.f s.t s.c0.x0 s.c0.x1 s.c0.x2 s.c0.x3 s.c0.x4 s.c0.x5 s.c0.x6 s.c0.x7 s.c0.x8 s.c0.x9 s.c0.x10 s.c1.x0 s.c1.x1 s.c1.x2 s.c1.x3 s.c1.x4 s.c1.x5 s.c1.x6 s.c1.x7 s.c1.x8 s.c1.x9 s.c1.x10 s.r s.g s.r2 s.g2 = some (decide (Lone s)) := by
  simp only [book_lone.c, book_lone.t, Tw.run_bb, Tw.run_ret, Lone]
  split <;> (apply sd; simp only [beq_iff_eq] at *; grind)
theorem book_both_eq (s : SA) : book_both.c s.m s.a s.l s.f s.t s.c0.x0 s.c0.x1 s.c0.x2 s.c0.x3 s.c0.x4 s.c0.x5 s.c0.x6 s.c0.x7 s.c0.x8 s.c0.x9 s.c0.x10 s.c1.x0 s.c1.x1 s.c1.x2 s.c1.x3 s.c1.x4 s.c1.x5 s.c1.x6 s.c1.x7 s.c1.x8 s.c1.x9 s.c1.x10 s.r s.g s.r2 s.g2 = some (decide (Both s)) := by
  simp only [book_both.c, book_both.t, Tw.run_bb, Tw.run_ret, Tw.run_opt, book_in_eq, Option.bind_some, decide_eq_true_eq, Both]
  repeat' split
  all_goals (apply sd; (try simp only [decide_eq_true_eq, bne_iff_ne, beq_iff_eq]); grind)
theorem w64_1a {a : Int} (h : a = 0 ∨ a = 1) : w64 (1 - a) = 1 - a := w64_of (by omega) (by omega)
theorem book_C3_0 (s : SA) (h : s.a = 0) : book_Right.C3 s.m s.a s.l s.f s.t s.c0.x0 s.c0.x1 s.c0.x2 s.c0.x3 s.c0.x4 s.c0.x5 s.c0.x6 s.c0.x7 s.c0.x8 s.c0.x9 s.c0.x10 s.c1.x0 s.c1.x1 s.c1.x2 s.c1.x3 s.c1.x4 s.c1.x5 s.c1.x6 s.c1.x7 s.c1.x8 s.c1.x9 s.c1.x10 s.r s.g s.r2 s.g2 = some (decide (BodyS s s.c1)) := by
  simp only [book_Right.C3, book_Right.c3]
  rw [w64_1a (Or.inl h), dd_pos (by omega)]
  simp only [Tw.run_bb, Tw.run_ret, Tw.run_opt, book_in_eq, book_there_eq, book_none_eq, book_lone_eq, book_both_eq, Option.bind_some, beq_iff_eq, decide_eq_true_eq, Bool.not_eq_true']
  repeat' split
  all_goals (apply sd; unfold BodyS; (try simp only [decide_eq_true_eq]); grind)
theorem book_C3_1 (s : SA) (h : s.a = 1) : book_Right.C3 s.m s.a s.l s.f s.t s.c0.x0 s.c0.x1 s.c0.x2 s.c0.x3 s.c0.x4 s.c0.x5 s.c0.x6 s.c0.x7 s.c0.x8 s.c0.x9 s.c0.x10 s.c1.x0 s.c1.x1 s.c1.x2 s.c1.x3 s.c1.x4 s.c1.x5 s.c1.x6 s.c1.x7 s.c1.x8 s.c1.x9 s.c1.x10 s.r s.g s.r2 s.g2 = some (decide (BodyS s s.c0)) := by
  simp only [book_Right.C3, book_Right.c3]
  rw [w64_1a (Or.inr h), dd_neg (by omega), dd_pos (by omega)]
  simp only [Tw.run_bb, Tw.run_ret, Tw.run_opt, book_in_eq, book_there_eq, book_none_eq, book_lone_eq, book_both_eq, Option.bind_some, beq_iff_eq, decide_eq_true_eq, Bool.not_eq_true']
  repeat' split
  all_goals (apply sd; unfold BodyS; (try simp only [decide_eq_true_eq]); grind)
theorem book_C3_eq (s : SA) (h : s.a = 0 ∨ s.a = 1) : book_Right.C3 s.m s.a s.l s.f s.t s.c0.x0 s.c0.x1 s.c0.x2 s.c0.x3 s.c0.x4 s.c0.x5 s.c0.x6 s.c0.x7 s.c0.x8 s.c0.x9 s.c0.x10 s.c1.x0 s.c1.x1 s.c1.x2 s.c1.x3 s.c1.x4 s.c1.x5 s.c1.x6 s.c1.x7 s.c1.x8 s.c1.x9 s.c1.x10 s.r s.g s.r2 s.g2 = some (decide (BodyS s s.oth)) := by
  rcases h with h | h
  · rw [show s.oth = s.c1 from if_neg (by omega)]
    exact book_C3_0 s h
  · rw [show s.oth = s.c0 from if_pos h]
    exact book_C3_1 s h
theorem book_Right_eq (s : SA) : book_Right.c s.m s.a s.l s.f s.t s.c0.x0 s.c0.x1 s.c0.x2 s.c0.x3 s.c0.x4 s.c0.x5 s.c0.x6 s.c0.x7 s.c0.x8 s.c0.x9 s.c0.x10 s.c1.x0 s.c1.x1 s.c1.x2 s.c1.x3 s.c1.x4 s.c1.x5 s.c1.x6 s.c1.x7 s.c1.x8 s.c1.x9 s.c1.x10 s.r s.g s.r2 s.g2 = some (decide (RightS s)) := by
  simp only [book_Right.c, book_Right.t, Tw.run_opt, book_in_eq, book_there_eq, Option.bind_some]
  by_cases h : s.a = 0 ∨ s.a = 1
  rotate_left
  · rw [decide_eq_false (by omega), bb_pos (by rfl), Tw.run_ret, decide_eq_false (fun g => h g.1)]
  rw [decide_eq_true (by omega), bb_neg (by rfl)]
  simp only [Tw.run_dd, Tw.run_opt, Tw.run_bb, Tw.run_ret, book_in_eq, book_there_eq, book_C3_eq s h, Option.bind_some]
  rcases h with h | h
  · have e : s.cur = s.c0 := if_neg (by omega)
    rw [if_neg (by omega), if_pos (by omega)]
    simp only [decide_eq_true_eq, Bool.not_eq_true', decide_eq_false_iff_not]
    repeat' split
    all_goals (apply sd; unfold RightS; rw [e]; (try simp only [decide_eq_true_eq]); grind)
  · have e : s.cur = s.c1 := if_pos h
    rw [if_pos (by omega)]
    simp only [decide_eq_true_eq, Bool.not_eq_true', decide_eq_false_iff_not]
    repeat' split
    all_goals (apply sd; unfold RightS; rw [e]; (try simp only [decide_eq_true_eq]); grind)

/-- What a mode asks, told by four words. -/
def BodyB (has none two one : Bool) (s : SA) : Prop :=
  (s.m = 0 ∧ one = true ∧ ((s.f = true ∧ has = true) ∨ (s.f = false ∧ none = true))) ∨ (s.m = 1 ∧ one = true ∧ none = true ∧ (1 ≤ s.t ∧ s.t ≤ 131072)) ∨
  (s.m = 2 ∧ one = true ∧ has = true) ∨ (s.m = 3 ∧ two = true ∧ has = true) ∨ (s.m = 4 ∧ two = true ∧ has = true ∧ (0 ≤ s.l ∧ s.l ≤ 9))
instance (a b c d : Bool) (s : SA) : Decidable (BodyB a b c d s) := by unfold BodyB; infer_instance
theorem ref34_C10_eq (has none two one : Bool) (s : SA) : ref34_Right.C10 has none two one s.m s.a s.l s.f s.t s.c0.x0 s.c0.x1 s.c0.x2 s.c0.x3 s.c0.x4 s.c0.x5 s.c0.x6 s.c0.x7 s.c0.x8 s.c0.x9 s.c0.x10 s.c1.x0 s.c1.x1 s.c1.x2 s.c1.x3 s.c1.x4 s.c1.x5 s.c1.x6 s.c1.x7 s.c1.x8 s.c1.x9 s.c1.x10 s.r s.g s.r2 s.g2 = some (decide (BodyB has none two one s)) := by
  simp only [ref34_Right.C10, ref34_Right.c10, Tw.run_bb, Tw.run_ret, Tw.run_opt, ref34_between_eq, Option.bind_some, BodyB, beq_iff_eq, Bool.not_eq_true']
  repeat' split
  all_goals (apply sd; (try simp only [decide_eq_true_eq]); grind)
theorem ref34_C7_eq (has none two : Bool) (s : SA) : ref34_Right.C7 has none two s.m s.a s.l s.f s.t s.c0.x0 s.c0.x1 s.c0.x2 s.c0.x3 s.c0.x4 s.c0.x5 s.c0.x6 s.c0.x7 s.c0.x8 s.c0.x9 s.c0.x10 s.c1.x0 s.c1.x1 s.c1.x2 s.c1.x3 s.c1.x4 s.c1.x5 s.c1.x6 s.c1.x7 s.c1.x8 s.c1.x9 s.c1.x10 s.r s.g s.r2 s.g2 = some (decide ((s.m = 4 ∨ s.l = 0) ∧ (s.m = 0 ∨ s.f = false) ∧ (s.m = 1 ∨ s.t = 0) ∧ BodyB has none two (decide (Lone s)) s)) := by
  simp only [ref34_Right.C7, ref34_Right.c7, Tw.run_bb, Tw.run_ret, Tw.run_opt, ref34_C10_eq, Option.bind_some, bne_iff_ne, beq_iff_eq, Lone]
  by_cases h : s.r2 = -1
  · have e : (s.g2 == 0) = decide (s.r2 = -1 ∧ s.g2 = 0) := by
      rw [Bool.eq_iff_iff, beq_iff_eq, decide_eq_true_iff]
      exact ⟨fun g => ⟨h, g⟩, fun g => g.2⟩
    rw [if_pos h, e]
    repeat' split
    all_goals (apply sd; (try simp only [decide_eq_true_eq]); grind)
  · have e : false = decide (s.r2 = -1 ∧ s.g2 = 0) := (decide_eq_false (fun g => h g.1)).symm
    rw [if_neg h, e]
    repeat' split
    all_goals (apply sd; (try simp only [decide_eq_true_eq]); grind)
theorem body_iff (s : SA) (o : Cd) : ((s.m = 4 ∨ s.l = 0) ∧ (s.m = 0 ∨ s.f = false) ∧ (s.m = 1 ∨ s.t = 0) ∧ BodyB (decide (ThereC o)) (decide (NoneC o)) (decide (Both s)) (decide (Lone s)) s) ↔ BodyS s o := by
  unfold BodyB BodyS
  simp only [decide_eq_true_eq]
  constructor
  · rintro ⟨h1, h2, h3, h⟩
    rcases h with h | h | h | h | h
    · exact Or.inl (by grind)
    · exact Or.inr (Or.inl (by grind))
    · exact Or.inr (Or.inr (Or.inl (by grind)))
    · exact Or.inr (Or.inr (Or.inr (Or.inl (by grind))))
    · exact Or.inr (Or.inr (Or.inr (Or.inr (by grind))))
  · intro h
    rcases h with h | h | h | h | h
    · exact ⟨by grind, by grind, by grind, Or.inl (by grind)⟩
    · exact ⟨by grind, by grind, by grind, Or.inr (Or.inl (by grind))⟩
    · exact ⟨by grind, by grind, by grind, Or.inr (Or.inr (Or.inl (by grind)))⟩
    · exact ⟨by grind, by grind, by grind, Or.inr (Or.inr (Or.inr (Or.inl (by grind))))⟩
    · exact ⟨by grind, by grind, by grind, Or.inr (Or.inr (Or.inr (Or.inr (by grind))))⟩
theorem ref34_C3_eq (s : SA) (h : s.a = 0 ∨ s.a = 1) : ref34_Right.C3 s.m s.a s.l s.f s.t s.c0.x0 s.c0.x1 s.c0.x2 s.c0.x3 s.c0.x4 s.c0.x5 s.c0.x6 s.c0.x7 s.c0.x8 s.c0.x9 s.c0.x10 s.c1.x0 s.c1.x1 s.c1.x2 s.c1.x3 s.c1.x4 s.c1.x5 s.c1.x6 s.c1.x7 s.c1.x8 s.c1.x9 s.c1.x10 s.r s.g s.r2 s.g2 = some (decide (BodyS s s.oth)) := by
  have hb : ∀ o : Cd, (if decide (0 ≤ s.r2 ∧ s.r2 ≤ 127) = true then (some (decide (1 ≤ s.g2 ∧ s.g2 ≤ 1073741823))).bind fun z => if z = true then ref34_Right.C7 (decide (ThereC o)) (decide (NoneC o)) (s.r2 != s.r) s.m s.a s.l s.f s.t s.c0.x0 s.c0.x1 s.c0.x2 s.c0.x3 s.c0.x4 s.c0.x5 s.c0.x6 s.c0.x7 s.c0.x8 s.c0.x9 s.c0.x10 s.c1.x0 s.c1.x1 s.c1.x2 s.c1.x3 s.c1.x4 s.c1.x5 s.c1.x6 s.c1.x7 s.c1.x8 s.c1.x9 s.c1.x10 s.r s.g s.r2 s.g2 else ref34_Right.C7 (decide (ThereC o)) (decide (NoneC o)) false s.m s.a s.l s.f s.t s.c0.x0 s.c0.x1 s.c0.x2 s.c0.x3 s.c0.x4 s.c0.x5 s.c0.x6 s.c0.x7 s.c0.x8 s.c0.x9 s.c0.x10 s.c1.x0 s.c1.x1 s.c1.x2 s.c1.x3 s.c1.x4 s.c1.x5 s.c1.x6 s.c1.x7 s.c1.x8 s.c1.x9 s.c1.x10 s.r s.g s.r2 s.g2
      else ref34_Right.C7 (decide (ThereC o)) (decide (NoneC o)) false s.m s.a s.l s.f s.t s.c0.x0 s.c0.x1 s.c0.x2 s.c0.x3 s.c0.x4 s.c0.x5 s.c0.x6 s.c0.x7 s.c0.x8 s.c0.x9 s.c0.x10 s.c1.x0 s.c1.x1 s.c1.x2 s.c1.x3 s.c1.x4 s.c1.x5 s.c1.x6 s.c1.x7 s.c1.x8 s.c1.x9 s.c1.x10 s.r s.g s.r2 s.g2) = some (decide (BodyS s o)) := fun o => by
    have key : ∀ b : Bool, b = decide (Both s) → ref34_Right.C7 (decide (ThereC o)) (decide (NoneC o)) b s.m s.a s.l s.f s.t s.c0.x0 s.c0.x1 s.c0.x2 s.c0.x3 s.c0.x4 s.c0.x5 s.c0.x6 s.c0.x7 s.c0.x8 s.c0.x9 s.c0.x10 s.c1.x0 s.c1.x1 s.c1.x2 s.c1.x3 s.c1.x4 s.c1.x5 s.c1.x6 s.c1.x7 s.c1.x8 s.c1.x9 s.c1.x10 s.r s.g s.r2 s.g2 = some (decide (BodyS s o)) := fun b hb => by
      rw [ref34_C7_eq, hb]
      congr 1
      rw [decide_eq_decide]
      exact body_iff s o
    by_cases h1 : 0 ≤ s.r2 ∧ s.r2 ≤ 127
    · rw [if_pos (decide_eq_true h1), Option.bind_some]
      by_cases h2 : 1 ≤ s.g2 ∧ s.g2 ≤ 1073741823
      · rw [if_pos (decide_eq_true h2)]
        refine key _ ?_
        rw [Bool.eq_iff_iff, bne_iff_ne, decide_eq_true_iff]
        exact ⟨fun g => ⟨h1, h2, g⟩, fun g => g.2.2⟩
      · rw [if_neg (by simpa using h2)]
        exact key _ (decide_eq_false (fun g => h2 g.2.1)).symm
    · rw [if_neg (by simpa using h1)]
      exact key _ (decide_eq_false (fun g => h1 g.1)).symm
  have bs : ∀ x : Option Bool, (x.bind fun z => some z) = x := fun x => by cases x <;> rfl
  simp only [ref34_Right.C3, ref34_Right.c3, Tw.run_bb, Tw.run_dd, Tw.run_ret, Tw.run_opt, ref34_between_eq, ref34_there_eq, Option.bind_some, w64_1a h, none_beq, bs]
  have b0 := hb s.c0
  have b1 := hb s.c1
  simp only [Option.bind_some] at b0 b1
  rcases h with h | h
  · rw [show s.oth = s.c1 from if_neg (by omega), if_pos (by omega)]
    exact b1
  · rw [show s.oth = s.c0 from if_pos h, if_neg (by omega), if_pos (by omega)]
    exact b0
theorem ref34_Right_eq (s : SA) : ref34_Right.c s.m s.a s.l s.f s.t s.c0.x0 s.c0.x1 s.c0.x2 s.c0.x3 s.c0.x4 s.c0.x5 s.c0.x6 s.c0.x7 s.c0.x8 s.c0.x9 s.c0.x10 s.c1.x0 s.c1.x1 s.c1.x2 s.c1.x3 s.c1.x4 s.c1.x5 s.c1.x6 s.c1.x7 s.c1.x8 s.c1.x9 s.c1.x10 s.r s.g s.r2 s.g2 = some (decide (RightS s)) := by
  simp only [ref34_Right.c, ref34_Right.t]
  by_cases h : s.a = 0 ∨ s.a = 1
  rotate_left
  · rw [bb_pos (by simp; omega), bb_pos (by simp; omega), Tw.run_ret, decide_eq_false (fun g => h g.1)]
  simp only [Tw.run_dd, Tw.run_opt, Tw.run_bb, Tw.run_ret, ref34_between_eq, ref34_there_eq, ref34_C3_eq s h, Option.bind_some]
  rcases h with h | h
  · have e : s.cur = s.c0 := if_neg (by omega)
    rw [if_neg (by simp [h]), if_neg (by omega), if_pos (by omega)]
    simp only [decide_eq_true_eq, Bool.not_eq_true', decide_eq_false_iff_not]
    repeat' split
    all_goals (apply sd; unfold RightS; rw [e]; (try simp only [decide_eq_true_eq]); grind)
  · have e : s.cur = s.c1 := if_pos h
    rw [if_pos (by simp [h]), if_neg (by simp [h]), if_pos (by omega)]
    simp only [decide_eq_true_eq, Bool.not_eq_true', decide_eq_false_iff_not]
    repeat' split
    all_goals (apply sd; unfold RightS; rw [e]; (try simp only [decide_eq_true_eq]); grind)

end Go.Proofs.Ytcnomgpbkimmeaa.Pure
