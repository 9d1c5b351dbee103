/- Plain texts that BookFolds leans on, put together. -/
import Derived.Test.YtkoidgjgdhpdnaaQAll1
import Derived.Test.YtkoidgjgdhpdnaaFbook
import Derived.Test.YtkoidgjgdhpdnaaFref34
import Derived.Test.YtkoidgjgdhpdnaaFlaw34
import Derived.Test.YtkoidgjgdhpdnaaFslices
set_option linter.unusedSimpArgs false
set_option linter.unusedVariables false
namespace Go.Proofs.Ytkoidgjgdhpdnaa.Pure
open Go Go.Proofs.Ytkoidgjgdhpdnaa.Va

structure Cd where
 x0 : Int
 x1 : Int
 x2 : Int
 x3 : Int
 x4 : Int
 x5 : Int
 x6 : Int
 x7 : Int
 x8 : Int
 x9 : Int
 x10 : Int
def cd0 : Cd := ⟨0, 0, 0, 0, 0, 0, 0, 0, 0, 0, 0⟩
structure SA where
 m : Int
 a : Int
 l : Int
 f : Bool
 t : Int
 c0 : Cd
 c1 : Cd
 r : Int
 g : Int
 r2 : Int
 g2 : Int
abbrev T32 : Type := Int × (Int × (Int × (Bool × (Int × (Int × (Int × (Int × (Int × (Int × (Int × (Int × (Int × (Int × (Int × (Int × (Int × (Int × (Int × (Int × (Int × (Int × (Int × (Int × (Int × (Int × (Int × (Int × (Int × (Int × (Int × Int))))))))))))))))))))))))))))))
def SA.out (s : SA) (e : Int) : T32 := (s.m, s.a, s.l, s.f, s.t, s.c0.x0, s.c0.x1, s.c0.x2, s.c0.x3, s.c0.x4, s.c0.x5, s.c0.x6, s.c0.x7, s.c0.x8, s.c0.x9, s.c0.x10, s.c1.x0, s.c1.x1, s.c1.x2, s.c1.x3, s.c1.x4, s.c1.x5, s.c1.x6, s.c1.x7, s.c1.x8, s.c1.x9, s.c1.x10, s.r, s.g, s.r2, s.g2, e)
def sa0 : SA := ⟨0, 0, 0, false, 0, cd0, cd0, 0, 0, 0, 0⟩

def ThereC (c : Cd) : Prop := (1 ≤ c.x0 ∧ c.x0 ≤ 65535) ∧ (1 ≤ c.x1 ∧ c.x1 ≤ 65535) ∧ (1 ≤ c.x2 ∧ c.x2 ≤ 131072)
instance (c : Cd) : Decidable (ThereC c) := by unfold ThereC; infer_instance
def NoneC (c : Cd) : Prop := c.x0 = 0 ∧ c.x1 = 0 ∧ c.x2 = 0 ∧ c.x3 = 0 ∧ c.x4 = 0 ∧ c.x5 = 0 ∧ c.x6 = 0 ∧ c.x7 = 0 ∧ c.x8 = 0 ∧ c.x9 = 0 ∧ c.x10 = 0
instance (c : Cd) : Decidable (NoneC c) := by unfold NoneC; infer_instance
def Lone (s : SA) : Prop := s.r2 = -1 ∧ s.g2 = 0
instance (s : SA) : Decidable (Lone s) := by unfold Lone; infer_instance
def Both (s : SA) : Prop := (0 ≤ s.r2 ∧ s.r2 ≤ 127) ∧ (1 ≤ s.g2 ∧ s.g2 ≤ 1073741823) ∧ s.r2 ≠ s.r
instance (s : SA) : Decidable (Both s) := by unfold Both; infer_instance
def BodyS (s : SA) (o : Cd) : Prop :=
 (s.m = 0 ∧ s.l = 0 ∧ s.t = 0 ∧ Lone s ∧ ((s.f = true ∧ ThereC o) ∨ (s.f = false ∧ NoneC o))) ∨ (s.m = 1 ∧ s.l = 0 ∧ s.f = false ∧ (1 ≤ s.t ∧ s.t ≤ 131072) ∧ NoneC o ∧ Lone s) ∨
 (s.m = 2 ∧ s.l = 0 ∧ s.t = 0 ∧ s.f = false ∧ ThereC o ∧ Lone s) ∨ (s.m = 3 ∧ s.l = 0 ∧ s.t = 0 ∧ s.f = false ∧ ThereC o ∧ Both s) ∨ (s.m = 4 ∧ (0 ≤ s.l ∧ s.l ≤ 9) ∧ s.f = false ∧ s.t = 0 ∧ ThereC o ∧ Both s)
instance (s : SA) (o : Cd) : Decidable (BodyS s o) := by unfold BodyS; infer_instance
def SA.cur (s : SA) : Cd := if s.a = 1 then s.c1 else s.c0
def SA.oth (s : SA) : Cd := if s.a = 1 then s.c0 else s.c1
def RightS (s : SA) : Prop := (s.a = 0 ∨ s.a = 1) ∧ ThereC s.cur ∧ (0 ≤ s.r ∧ s.r ≤ 127) ∧ (1 ≤ s.g ∧ s.g ≤ 1073741823) ∧ BodyS s s.oth
instance (s : SA) : Decidable (RightS s) := by unfold RightS; infer_instance

theorem sd {b : Bool} {P : Prop} [Decidable P] (h : b = true ↔ P) : some b = some (decide P) := by
 congr 1
 rw [Bool.eq_iff_iff, decide_eq_true_iff]
 exact h
theorem book_in_eq (n lo hi : Int) : book_in.c n lo hi = some (decide (lo ≤ n ∧ n ≤ hi)) := by
 simp only [book_in.c, book_in.t, Tw.run_bb, Tw.run_ret, decide_eq_true_eq, ge_iff_le]
 split <;> (apply sd; (try simp only [decide_eq_true_eq]); grind)
theorem ref34_between_eq (n lo hi : Int) : ref34_between.c n lo hi = some (decide (lo ≤ n ∧ n ≤ hi)) := by
 simp only [ref34_between.c, ref34_between.t, Tw.run_bb, Tw.run_ret, decide_eq_true_eq, ge_iff_le]
 split <;> (apply sd; (try simp only [decide_eq_true_eq]); grind)
theorem book_there_eq (c : Cd) : book_there.c c.x0 c.x1 c.x2 c.x3 c.x4 c.x5 c.x6 c.x7 c.x8 c.x9 c.x10 = some (decide (ThereC c)) := by
 simp only [book_there.c, book_there.t, Tw.run_bb, Tw.run_ret, Tw.run_opt, book_in_eq, Option.bind_some, decide_eq_true_eq, ThereC]
 repeat' split
 all_goals (apply sd; (try simp only [decide_eq_true_eq, bne_iff_ne, beq_iff_eq]); grind)
theorem ref34_there_eq (c : Cd) : ref34_there.c c.x0 c.x1 c.x2 c.x3 c.x4 c.x5 c.x6 c.x7 c.x8 c.x9 c.x10 = some (decide (ThereC c)) := by
 simp only [ref34_there.c, ref34_there.t, Tw.run_bb, Tw.run_ret, Tw.run_opt, ref34_between_eq, Option.bind_some, decide_eq_true_eq, ThereC]
 repeat' split
 all_goals (apply sd; (try simp only [decide_eq_true_eq, bne_iff_ne, beq_iff_eq]); grind)
theorem none_beq (c : Cd) : ((c.x0 == 0) && ((c.x1 == 0) && ((c.x2 == 0) && ((c.x3 == 0) && ((c.x4 == 0) && ((c.x5 == 0) && ((c.x6 == 0) && ((c.x7 == 0) && ((c.x8 == 0) && ((c.x9 == 0) && ((c.x10 == 0) && true))))))))))) = decide (NoneC c) := by
 rw [Bool.eq_iff_iff, decide_eq_true_iff]
 simp only [Bool.and_eq_true, beq_iff_eq, NoneC, and_true]
theorem book_none_eq (c : Cd) : book_none.c c.x0 c.x1 c.x2 c.x3 c.x4 c.x5 c.x6 c.x7 c.x8 c.x9 c.x10 = some (decide (NoneC c)) := by
 simp only [book_none.c, book_none.t, Tw.run_ret, none_beq]
theorem book_lone_eq (s : SA) : book_lone.c s.m s.a s.l s.f s.t s.c0.x0 s.c0.x1 s.c0.x2 s.c0.x3 s.c0.x4 s.c0.x5 s.c0.x6 s.c0.x7 s.c0.x8 s.c0.x9 s.c0.x10 s.c1.x0 s.c1.x1 s.c1.x2 s.c1.x3 s.c1.x4 s.c1.x5 s.c1.x6 s.c1.x7 s.c1.x8 s.c1.x9 s.c1.x10 s.r s.g s.r2 s.g2 = some (decide (Lone s)) := by
 simp only [book_lone.c, book_lone.t, Tw.run_bb, Tw.run_ret, Lone]
 split <;> (apply sd; simp only [beq_iff_eq] at *; grind)
theorem book_both_eq (s : SA) : book_both.c s.m s.a s.l s.f s.t s.c0.x0 s.c0.x1 s.c0.x2 s.c0.x3 s.c0.x4 s.c0.x5 s.c0.x6 s.c0.x7 s.c0.x8 s.c0.x9 s.c0.x10 s.c1.x0 s.c1.x1 s.c1.x2 s.c1.x3 s.c1.x4 s.c1.x5 s.c1.x6 s.c1.x7 s.c1.x8 s.c1.x9 s.c1.x10 s.r s.g s.r2 s.g2 = some (decide (Both s)) := by
 simp only [book_both.c, book_both.t, Tw.run_bb, Tw.run_ret, Tw.run_opt, book_in_eq, Option.bind_some, decide_eq_true_eq, Both]
 repeat' split
 all_goals (apply sd; (try simp only [decide_eq_true_eq, bne_iff_ne, beq_iff_eq]); grind)
theorem w64_1a {a : Int} (h : a = 0 ∨ a = 1) : w64 (1 - a) = 1 - a := w64_of (by omega) (by omega)
theorem book_C3_0 (s : SA) (h : s.a = 0) : book_Right.C3 s.m s.a s.l s.f s.t s.c0.x0 s.c0.x1 s.c0.x2 s.c0.x3 s.c0.x4 s.c0.x5 s.c0.x6 s.c0.x7 s.c0.x8 s.c0.x9 s.c0.x10 s.c1.x0 s.c1.x1 s.c1.x2 s.c1.x3 s.c1.x4 s.c1.x5 s.c1.x6 s.c1.x7 s.c1.x8 s.c1.x9 s.c1.x10 s.r s.g s.r2 s.g2 = some (decide (BodyS s s.c1)) := by
 simp only [book_Right.C3, book_Right.c3]
 rw [w64_1a (Or.inl h), dd_pos (by omega)]
 simp only [Tw.run_bb, Tw.run_ret, Tw.run_opt, book_in_eq, book_there_eq, book_none_eq, book_lone_eq, book_both_eq, Option.bind_some, beq_iff_eq, decide_eq_true_eq, Bool.not_eq_true']
 repeat' split
 all_goals (apply sd; unfold BodyS; (try simp only [decide_eq_true_eq]); grind)
theorem book_C3_1 (s : SA) (h : s.a = 1) : book_Right.C3 s.m s.a s.l s.f s.t s.c0.x0 s.c0.x1 s.c0.x2 s.c0.x3 s.c0.x4 s.c0.x5 s.c0.x6 s.c0.x7 s.c0.x8 s.c0.x9 s.c0.x10 s.c1.x0 s.c1.x1 s.c1.x2 s.c1.x3 s.c1.x4 s.c1.x5 s.c1.x6 s.c1.x7 s.c1.x8 s.c1.x9 s.c1.x10 s.r s.g s.r2 s.g2 = some (decide (BodyS s s.c0)) := by
 simp only [book_Right.C3, book_Right.c3]
 rw [w64_1a (Or.inr h), dd_neg (by omega), dd_pos (by omega)]
 simp only [Tw.run_bb, Tw.run_ret, Tw.run_opt, book_in_eq, book_there_eq, book_none_eq, book_lone_eq, book_both_eq, Option.bind_some, beq_iff_eq, decide_eq_true_eq, Bool.not_eq_true']
 repeat' split
 all_goals (apply sd; unfold BodyS; (try simp only [decide_eq_true_eq]); grind)
theorem book_C3_eq (s : SA) (h : s.a = 0 ∨ s.a = 1) : book_Right.C3 s.m s.a s.l s.f s.t s.c0.x0 s.c0.x1 s.c0.x2 s.c0.x3 s.c0.x4 s.c0.x5 s.c0.x6 s.c0.x7 s.c0.x8 s.c0.x9 s.c0.x10 s.c1.x0 s.c1.x1 s.c1.x2 s.c1.x3 s.c1.x4 s.c1.x5 s.c1.x6 s.c1.x7 s.c1.x8 s.c1.x9 s.c1.x10 s.r s.g s.r2 s.g2 = some (decide (BodyS s s.oth)) := by
 rcases h with h | h
 ·rw [show s.oth = s.c1 from if_neg (by omega)]
  exact book_C3_0 s h
 ·rw [show s.oth = s.c0 from if_pos h]
  exact book_C3_1 s h
theorem book_Right_eq (s : SA) : book_Right.c s.m s.a s.l s.f s.t s.c0.x0 s.c0.x1 s.c0.x2 s.c0.x3 s.c0.x4 s.c0.x5 s.c0.x6 s.c0.x7 s.c0.x8 s.c0.x9 s.c0.x10 s.c1.x0 s.c1.x1 s.c1.x2 s.c1.x3 s.c1.x4 s.c1.x5 s.c1.x6 s.c1.x7 s.c1.x8 s.c1.x9 s.c1.x10 s.r s.g s.r2 s.g2 = some (decide (RightS s)) := by
 simp only [book_Right.c, book_Right.t, Tw.run_opt, book_in_eq, book_there_eq, Option.bind_some]
 by_cases h : s.a = 0 ∨ s.a = 1
 rotate_left
 ·rw [decide_eq_false (by omega), bb_pos (by rfl), Tw.run_ret, decide_eq_false (fun g => h g.1)]
 rw [decide_eq_true (by omega), bb_neg (by rfl)]
 simp only [Tw.run_dd, Tw.run_opt, Tw.run_bb, Tw.run_ret, book_in_eq, book_there_eq, book_C3_eq s h, Option.bind_some]
 rcases h with h | h
 ·have e : s.cur = s.c0 := if_neg (by omega)
  rw [if_neg (by omega), if_pos (by omega)]
  simp only [decide_eq_true_eq, Bool.not_eq_true', decide_eq_false_iff_not]
  repeat' split
  all_goals (apply sd; unfold RightS; rw [e]; (try simp only [decide_eq_true_eq]); grind)
 ·have e : s.cur = s.c1 := if_pos h
  rw [if_pos (by omega)]
  simp only [decide_eq_true_eq, Bool.not_eq_true', decide_eq_false_iff_not]
  repeat' split
  all_goals (apply sd; unfold RightS; rw [e]; (try simp only [decide_eq_true_eq]); grind)

def BodyB (has none two one : Bool) (s : SA) : Prop :=
 (s.m = 0 ∧ one = true ∧ ((s.f = true ∧ has = true) ∨ (s.f = false ∧ none = true))) ∨ (s.m = 1 ∧ one = true ∧ none = true ∧ (1 ≤ s.t ∧ s.t ≤ 131072)) ∨
 (s.m = 2 ∧ one = true ∧ has = true) ∨ (s.m = 3 ∧ two = true ∧ has = true) ∨ (s.m = 4 ∧ two = true ∧ has = true ∧ (0 ≤ s.l ∧ s.l ≤ 9))
instance (a b c d : Bool) (s : SA) : Decidable (BodyB a b c d s) := by unfold BodyB; infer_instance
theorem ref34_C10_eq (has none two one : Bool) (s : SA) : ref34_Right.C10 has none two one s.m s.a s.l s.f s.t s.c0.x0 s.c0.x1 s.c0.x2 s.c0.x3 s.c0.x4 s.c0.x5 s.c0.x6 s.c0.x7 s.c0.x8 s.c0.x9 s.c0.x10 s.c1.x0 s.c1.x1 s.c1.x2 s.c1.x3 s.c1.x4 s.c1.x5 s.c1.x6 s.c1.x7 s.c1.x8 s.c1.x9 s.c1.x10 s.r s.g s.r2 s.g2 = some (decide (BodyB has none two one s)) := by
 simp only [ref34_Right.C10, ref34_Right.c10, Tw.run_bb, Tw.run_ret, Tw.run_opt, ref34_between_eq, Option.bind_some, BodyB, beq_iff_eq, Bool.not_eq_true']
 repeat' split
 all_goals (apply sd; (try simp only [decide_eq_true_eq]); grind)
theorem ref34_C7_eq (has none two : Bool) (s : SA) : ref34_Right.C7 has none two s.m s.a s.l s.f s.t s.c0.x0 s.c0.x1 s.c0.x2 s.c0.x3 s.c0.x4 s.c0.x5 s.c0.x6 s.c0.x7 s.c0.x8 s.c0.x9 s.c0.x10 s.c1.x0 s.c1.x1 s.c1.x2 s.c1.x3 s.c1.x4 s.c1.x5 s.c1.x6 s.c1.x7 s.c1.x8 s.c1.x9 s.c1.x10 s.r s.g s.r2 s.g2 = some (decide ((s.m = 4 ∨ s.l = 0) ∧ (s.m = 0 ∨ s.f = false) ∧ (s.m = 1 ∨ s.t = 0) ∧ BodyB has none two (decide (Lone s)) s)) := by
 simp only [ref34_Right.C7, ref34_Right.c7, Tw.run_bb, Tw.run_ret, Tw.run_opt, ref34_C10_eq, Option.bind_some, bne_iff_ne, beq_iff_eq, Lone]
 by_cases h : s.r2 = -1
 ·have e : (s.g2 == 0) = decide (s.r2 = -1 ∧ s.g2 = 0) := by
   rw [Bool.eq_iff_iff, beq_iff_eq, decide_eq_true_iff]
   exact ⟨fun g => ⟨h, g⟩, fun g => g.2⟩
  rw [if_pos h, e]
  repeat' split
  all_goals (apply sd; (try simp only [decide_eq_true_eq]); grind)
 ·have e : false = decide (s.r2 = -1 ∧ s.g2 = 0) := (decide_eq_false (fun g => h g.1)).symm
  rw [if_neg h, e]
  repeat' split
  all_goals (apply sd; (try simp only [decide_eq_true_eq]); grind)
theorem body_iff (s : SA) (o : Cd) : ((s.m = 4 ∨ s.l = 0) ∧ (s.m = 0 ∨ s.f = false) ∧ (s.m = 1 ∨ s.t = 0) ∧ BodyB (decide (ThereC o)) (decide (NoneC o)) (decide (Both s)) (decide (Lone s)) s) ↔ BodyS s o := by
 unfold BodyB BodyS
 simp only [decide_eq_true_eq]
 constructor
 ·rintro ⟨h1, h2, h3, h⟩
  rcases h with h | h | h | h | h
  ·exact Or.inl (by grind)
  ·exact Or.inr (Or.inl (by grind))
  ·exact Or.inr (Or.inr (Or.inl (by grind)))
  ·exact Or.inr (Or.inr (Or.inr (Or.inl (by grind))))
  ·exact Or.inr (Or.inr (Or.inr (Or.inr (by grind))))
 ·intro h
  rcases h with h | h | h | h | h
  ·exact ⟨by grind, by grind, by grind, Or.inl (by grind)⟩
  ·exact ⟨by grind, by grind, by grind, Or.inr (Or.inl (by grind))⟩
  ·exact ⟨by grind, by grind, by grind, Or.inr (Or.inr (Or.inl (by grind)))⟩
  ·exact ⟨by grind, by grind, by grind, Or.inr (Or.inr (Or.inr (Or.inl (by grind))))⟩
  ·exact ⟨by grind, by grind, by grind, Or.inr (Or.inr (Or.inr (Or.inr (by grind))))⟩
theorem ref34_C3_eq (s : SA) (h : s.a = 0 ∨ s.a = 1) : ref34_Right.C3 s.m s.a s.l s.f s.t s.c0.x0 s.c0.x1 s.c0.x2 s.c0.x3 s.c0.x4 s.c0.x5 s.c0.x6 s.c0.x7 s.c0.x8 s.c0.x9 s.c0.x10 s.c1.x0 s.c1.x1 s.c1.x2 s.c1.x3 s.c1.x4 s.c1.x5 s.c1.x6 s.c1.x7 s.c1.x8 s.c1.x9 s.c1.x10 s.r s.g s.r2 s.g2 = some (decide (BodyS s s.oth)) := by
 have hb : ∀ o : Cd, (if decide (0 ≤ s.r2 ∧ s.r2 ≤ 127) = true then (some (decide (1 ≤ s.g2 ∧ s.g2 ≤ 1073741823))).bind fun z => if z = true then ref34_Right.C7 (decide (ThereC o)) (decide (NoneC o)) (s.r2 != s.r) s.m s.a s.l s.f s.t s.c0.x0 s.c0.x1 s.c0.x2 s.c0.x3 s.c0.x4 s.c0.x5 s.c0.x6 s.c0.x7 s.c0.x8 s.c0.x9 s.c0.x10 s.c1.x0 s.c1.x1 s.c1.x2 s.c1.x3 s.c1.x4 s.c1.x5 s.c1.x6 s.c1.x7 s.c1.x8 s.c1.x9 s.c1.x10 s.r s.g s.r2 s.g2 else ref34_Right.C7 (decide (ThereC o)) (decide (NoneC o)) false s.m s.a s.l s.f s.t s.c0.x0 s.c0.x1 s.c0.x2 s.c0.x3 s.c0.x4 s.c0.x5 s.c0.x6 s.c0.x7 s.c0.x8 s.c0.x9 s.c0.x10 s.c1.x0 s.c1.x1 s.c1.x2 s.c1.x3 s.c1.x4 s.c1.x5 s.c1.x6 s.c1.x7 s.c1.x8 s.c1.x9 s.c1.x10 s.r s.g s.r2 s.g2
   else ref34_Right.C7 (decide (ThereC o)) (decide (NoneC o)) false s.m s.a s.l s.f s.t s.c0.x0 s.c0.x1 s.c0.x2 s.c0.x3 s.c0.x4 s.c0.x5 s.c0.x6 s.c0.x7 s.c0.x8 s.c0.x9 s.c0.x10 s.c1.x0 s.c1.x1 s.c1.x2 s.c1.x3 s.c1.x4 s.c1.x5 s.c1.x6 s.c1.x7 s.c1.x8 s.c1.x9 s.c1.x10 s.r s.g s.r2 s.g2) = some (decide (BodyS s o)) := fun o => by
  have key : ∀ b : Bool, b = decide (Both s) → ref34_Right.C7 (decide (ThereC o)) (decide (NoneC o)) b s.m s.a s.l s.f s.t s.c0.x0 s.c0.x1 s.c0.x2 s.c0.x3 s.c0.x4 s.c0.x5 s.c0.x6 s.c0.x7 s.c0.x8 s.c0.x9 s.c0.x10 s.c1.x0 s.c1.x1 s.c1.x2 s.c1.x3 s.c1.x4 s.c1.x5 s.c1.x6 s.c1.x7 s.c1.x8 s.c1.x9 s.c1.x10 s.r s.g s.r2 s.g2 = some (decide (BodyS s o)) := fun b hb => by
   rw [ref34_C7_eq, hb]
   congr 1
   rw [decide_eq_decide]
   exact body_iff s o
  by_cases h1 : 0 ≤ s.r2 ∧ s.r2 ≤ 127
  ·rw [if_pos (decide_eq_true h1), Option.bind_some]
   by_cases h2 : 1 ≤ s.g2 ∧ s.g2 ≤ 1073741823
   ·rw [if_pos (decide_eq_true h2)]
    refine key _ ?_
    rw [Bool.eq_iff_iff, bne_iff_ne, decide_eq_true_iff]
    exact ⟨fun g => ⟨h1, h2, g⟩, fun g => g.2.2⟩
   ·rw [if_neg (by simpa using h2)]
    exact key _ (decide_eq_false (fun g => h2 g.2.1)).symm
  ·rw [if_neg (by simpa using h1)]
   exact key _ (decide_eq_false (fun g => h1 g.1)).symm
 have bs : ∀ x : Option Bool, (x.bind fun z => some z) = x := fun x => by cases x <;> rfl
 simp only [ref34_Right.C3, ref34_Right.c3, Tw.run_bb, Tw.run_dd, Tw.run_ret, Tw.run_opt, ref34_between_eq, ref34_there_eq, Option.bind_some, w64_1a h, none_beq, bs]
 have b0 := hb s.c0
 have b1 := hb s.c1
 simp only [Option.bind_some] at b0 b1
 rcases h with h | h
 ·rw [show s.oth = s.c1 from if_neg (by omega), if_pos (by omega)]
  exact b1
 ·rw [show s.oth = s.c0 from if_pos h, if_neg (by omega), if_pos (by omega)]
  exact b0
theorem ref34_Right_eq (s : SA) : ref34_Right.c s.m s.a s.l s.f s.t s.c0.x0 s.c0.x1 s.c0.x2 s.c0.x3 s.c0.x4 s.c0.x5 s.c0.x6 s.c0.x7 s.c0.x8 s.c0.x9 s.c0.x10 s.c1.x0 s.c1.x1 s.c1.x2 s.c1.x3 s.c1.x4 s.c1.x5 s.c1.x6 s.c1.x7 s.c1.x8 s.c1.x9 s.c1.x10 s.r s.g s.r2 s.g2 = some (decide (RightS s)) := by
 simp only [ref34_Right.c, ref34_Right.t]
 by_cases h : s.a = 0 ∨ s.a = 1
 rotate_left
 ·rw [bb_pos (by simp; omega), bb_pos (by simp; omega), Tw.run_ret, decide_eq_false (fun g => h g.1)]
 simp only [Tw.run_dd, Tw.run_opt, Tw.run_bb, Tw.run_ret, ref34_between_eq, ref34_there_eq, ref34_C3_eq s h, Option.bind_some]
 rcases h with h | h
 ·have e : s.cur = s.c0 := if_neg (by omega)
  rw [if_neg (by simp [h]), if_neg (by omega), if_pos (by omega)]
  simp only [decide_eq_true_eq, Bool.not_eq_true', decide_eq_false_iff_not]
  repeat' split
  all_goals (apply sd; unfold RightS; rw [e]; (try simp only [decide_eq_true_eq]); grind)
 ·have e : s.cur = s.c1 := if_pos h
  rw [if_pos (by simp [h]), if_neg (by simp [h]), if_pos (by omega)]
  simp only [decide_eq_true_eq, Bool.not_eq_true', decide_eq_false_iff_not]
  repeat' split
  all_goals (apply sd; unfold RightS; rw [e]; (try simp only [decide_eq_true_eq]); grind)

end Go.Proofs.Ytkoidgjgdhpdnaa.Pure
namespace Go.Proofs.Ytkoidgjgdhpdnaa.Pure
open Go Go.Proofs.Ytkoidgjgdhpdnaa.Va

theorem bOr64_comm (a b : Int) : bOr .i64 a b = bOr .i64 b a := by
 unfold bOr
 rw [BitVec.or_comm]
structure Bnd (s : SA) : Prop where
 m : 0 ≤ s.m ∧ s.m ≤ 4
 a : 0 ≤ s.a ∧ s.a ≤ 1
 l : 0 ≤ s.l ∧ s.l ≤ 9
 t : 0 ≤ s.t ∧ s.t ≤ 131072
 r : 0 ≤ s.r ∧ s.r ≤ 127
 g : 0 ≤ s.g ∧ s.g ≤ 1073741823
 r2 : -1 ≤ s.r2 ∧ s.r2 ≤ 127
 g2 : 0 ≤ s.g2 ∧ s.g2 ≤ 1073741823
 c0 : (0 ≤ s.c0.x0 ∧ s.c0.x0 ≤ 65535) ∧ (0 ≤ s.c0.x1 ∧ s.c0.x1 ≤ 65535) ∧ (0 ≤ s.c0.x2 ∧ s.c0.x2 ≤ 131072)
 c1 : (0 ≤ s.c1.x0 ∧ s.c1.x0 ≤ 65535) ∧ (0 ≤ s.c1.x1 ∧ s.c1.x1 ≤ 65535) ∧ (0 ≤ s.c1.x2 ∧ s.c1.x2 ≤ 131072)
def CB (c : Cd) : Prop := (0 ≤ c.x0 ∧ c.x0 ≤ 65535) ∧ (0 ≤ c.x1 ∧ c.x1 ≤ 65535) ∧ (0 ≤ c.x2 ∧ c.x2 ≤ 131072)
theorem there_b {c : Cd} (h : ThereC c) : CB c := by unfold ThereC at h; unfold CB; omega
theorem none_b {c : Cd} (h : NoneC c) : CB c := by unfold NoneC at h; unfold CB; omega
theorem lone_b {s : SA} (h : Lone s) : (-1 ≤ s.r2 ∧ s.r2 ≤ 127) ∧ (0 ≤ s.g2 ∧ s.g2 ≤ 1073741823) := by unfold Lone at h; omega
theorem both_b {s : SA} (h : Both s) : (-1 ≤ s.r2 ∧ s.r2 ≤ 127) ∧ (0 ≤ s.g2 ∧ s.g2 ≤ 1073741823) := by unfold Both at h; omega
theorem body_b {s : SA} {c : Cd} (h : BodyS s c) : (0 ≤ s.m ∧ s.m ≤ 4) ∧ (0 ≤ s.l ∧ s.l ≤ 9) ∧ (0 ≤ s.t ∧ s.t ≤ 131072) ∧ ((-1 ≤ s.r2 ∧ s.r2 ≤ 127) ∧ (0 ≤ s.g2 ∧ s.g2 ≤ 1073741823)) ∧ CB c := by
 rcases h with h | h | h | h | h
 ·obtain ⟨h1, h2, h3, h4, h5⟩ := h
  refine ⟨by omega, by omega, by omega, lone_b h4, ?_⟩
  rcases h5 with h5 | h5
  ·exact there_b h5.2
  ·exact none_b h5.2
 ·obtain ⟨h1, h2, h3, h4, h5, h6⟩ := h
  exact ⟨by omega, by omega, by omega, lone_b h6, none_b h5⟩
 ·obtain ⟨h1, h2, h3, h4, h5, h6⟩ := h
  exact ⟨by omega, by omega, by omega, lone_b h6, there_b h5⟩
 ·obtain ⟨h1, h2, h3, h4, h5, h6⟩ := h
  exact ⟨by omega, by omega, by omega, both_b h6, there_b h5⟩
 ·obtain ⟨h1, h2, h3, h4, h5, h6⟩ := h
  exact ⟨by omega, by omega, by omega, both_b h6, there_b h5⟩
theorem bnd_of {s : SA} (h : RightS s) : Bnd s := by
 obtain ⟨h1, h2, h3, h4, h5⟩ := h
 obtain ⟨b1, b2, b3, b4, b5⟩ := body_b h5
 have hc := there_b h2
 have cc : CB s.c0 ∧ CB s.c1 := by
  rcases h1 with ha | ha
  ·rw [show s.cur = s.c0 from if_neg (by omega)] at hc
   rw [show s.oth = s.c1 from if_neg (by omega)] at b5
   exact ⟨hc, b5⟩
  ·rw [show s.cur = s.c1 from if_pos ha] at hc
   rw [show s.oth = s.c0 from if_pos ha] at b5
   exact ⟨b5, hc⟩
 exact ⟨b1, by omega, b2, b3, h3, by omega, b4.1, b4.2, cc.1, cc.2⟩
def fallN (f : Bool) : Int := if f then 16777216 else 0

def layB (s : SA) : List Int := [s.m + 256 * s.a + 65536 * s.l + fallN s.f, s.t, s.r, s.g, s.r2 + 1, s.g2, s.c0.x0 + 65536 * s.c0.x1, s.c0.x2, s.c0.x3, s.c0.x4, s.c0.x5, s.c0.x6, s.c0.x7, s.c0.x8, s.c0.x9, s.c0.x10, s.c1.x0 + 65536 * s.c1.x1, s.c1.x2, s.c1.x3, s.c1.x4, s.c1.x5, s.c1.x6, s.c1.x7, s.c1.x8, s.c1.x9, s.c1.x10]
theorem head_eq {a b : Int} (ha : 0 ≤ a ∧ a ≤ 65535) (hb : 0 ≤ b ∧ b ≤ 65535) : w32 (bOr .i64 a (bShl .i64 b 16)) = a + 65536 * b := by
 rw [show (16 : Int) = ((16 : Nat) : Int) from rfl, bShl64 b 16 (by omega) (by omega) (by omega), bOr64_comm, bOr64_add 16 (by omega) (by omega) (by omega) (by omega) (by omega), w32_of (by omega) (by omega)]
 omega
theorem first_eq {m a l : Int} (hm : 0 ≤ m ∧ m ≤ 255) (ha : 0 ≤ a ∧ a ≤ 255) (hl : 0 ≤ l ∧ l ≤ 255) : w32 (bOr .i64 (bOr .i64 m (bShl .i64 a 8)) (bShl .i64 l 16)) = m + 256 * a + 65536 * l := by
 have s1 : bOr .i64 m (a * 2 ^ 8) = m + 256 * a := by
  rw [bOr64_comm, bOr64_add 8 (by omega) (by omega) (by omega) (by omega) (by omega)]
  omega
 have s2 : bOr .i64 (m + 256 * a) (l * 2 ^ 16) = m + 256 * a + 65536 * l := by
  rw [bOr64_comm, bOr64_add 16 (by omega) (by omega) (by omega) (by omega) (by omega)]
  omega
 rw [show (16 : Int) = ((16 : Nat) : Int) from rfl, show (8 : Int) = ((8 : Nat) : Int) from rfl, bShl64 a 8 (by omega) (by omega) (by omega), bShl64 l 16 (by omega) (by omega) (by omega), s1, s2, w32_of (by omega) (by omega)]
theorem book_L10_eq {s : SA} (hb : Bnd s) (h0 h1 h2 h3 h4 h5 : Int) : book_Lay.L10 s.c0.x0 s.c0.x1 s.c0.x2 s.c0.x3 s.c0.x4 s.c0.x5 s.c0.x6 s.c0.x7 s.c0.x8 s.c0.x9 s.c0.x10 s.c1.x0 s.c1.x1 s.c1.x2 s.c1.x3 s.c1.x4 s.c1.x5 s.c1.x6 s.c1.x7 s.c1.x8 s.c1.x9 s.c1.x10 0 [h0, h1, h2, h3, h4, h5, 0, 0, 0, 0, 0, 0, 0, 0, 0, 0, 0, 0, 0, 0, 0, 0, 0, 0, 0, 0] = some [h0, h1, h2, h3, h4, h5, s.c0.x0 + 65536 * s.c0.x1, s.c0.x2, s.c0.x3, s.c0.x4, s.c0.x5, s.c0.x6, s.c0.x7, s.c0.x8, s.c0.x9, s.c0.x10, s.c1.x0 + 65536 * s.c1.x1, s.c1.x2, s.c1.x3, s.c1.x4, s.c1.x5, s.c1.x6, s.c1.x7, s.c1.x8, s.c1.x9, s.c1.x10] := by
 have e0 := head_eq hb.c0.1 hb.c0.2.1
 have e1 := head_eq hb.c1.1 hb.c1.2.1
 have t0 : w32 s.c0.x2 = s.c0.x2 := by have := hb.c0; exact w32_of (by omega) (by omega)
 have t1 : w32 s.c1.x2 = s.c1.x2 := by have := hb.c1; exact w32_of (by omega) (by omega)
 unfold book_Lay.L10
 have s0 : (book_Lay.l10 s.c0.x0 s.c0.x1 s.c0.x2 s.c0.x3 s.c0.x4 s.c0.x5 s.c0.x6 s.c0.x7 s.c0.x8 s.c0.x9 s.c0.x10 s.c1.x0 s.c1.x1 s.c1.x2 s.c1.x3 s.c1.x4 s.c1.x5 s.c1.x6 s.c1.x7 s.c1.x8 s.c1.x9 s.c1.x10 0 [h0, h1, h2, h3, h4, h5, 0, 0, 0, 0, 0, 0, 0, 0, 0, 0, 0, 0, 0, 0, 0, 0, 0, 0, 0, 0]).run = some (.inl (1, [h0, h1, h2, h3, h4, h5, s.c0.x0 + 65536 * s.c0.x1, s.c0.x2, s.c0.x3, s.c0.x4, s.c0.x5, s.c0.x6, s.c0.x7, s.c0.x8, s.c0.x9, s.c0.x10, 0, 0, 0, 0, 0, 0, 0, 0, 0, 0])) := by
  simp only [book_Lay.l10]
  rw [bb_pos (by rfl), dd_neg (by decide), dd_pos (by rfl), dd_pos ⟨by decide, by exact (by decide : (6 : Int) ≤ 26)⟩, dd_pos ⟨by decide, by exact (by decide : (10 : Int) ≤ 20)⟩, opt_some (x := 0) (by rfl), opt_some (x := 0) (by rfl), dd_pos ⟨by rfl, by rfl, by exact (by decide : 16 ≤ 26)⟩, Tw.run_ret, e0, t0]
  rfl
 have s1 : (book_Lay.l10 s.c0.x0 s.c0.x1 s.c0.x2 s.c0.x3 s.c0.x4 s.c0.x5 s.c0.x6 s.c0.x7 s.c0.x8 s.c0.x9 s.c0.x10 s.c1.x0 s.c1.x1 s.c1.x2 s.c1.x3 s.c1.x4 s.c1.x5 s.c1.x6 s.c1.x7 s.c1.x8 s.c1.x9 s.c1.x10 1 [h0, h1, h2, h3, h4, h5, s.c0.x0 + 65536 * s.c0.x1, s.c0.x2, s.c0.x3, s.c0.x4, s.c0.x5, s.c0.x6, s.c0.x7, s.c0.x8, s.c0.x9, s.c0.x10, 0, 0, 0, 0, 0, 0, 0, 0, 0, 0]).run = some (.inl (2, [h0, h1, h2, h3, h4, h5, s.c0.x0 + 65536 * s.c0.x1, s.c0.x2, s.c0.x3, s.c0.x4, s.c0.x5, s.c0.x6, s.c0.x7, s.c0.x8, s.c0.x9, s.c0.x10, s.c1.x0 + 65536 * s.c1.x1, s.c1.x2, s.c1.x3, s.c1.x4, s.c1.x5, s.c1.x6, s.c1.x7, s.c1.x8, s.c1.x9, s.c1.x10])) := by
  simp only [book_Lay.l10]
  rw [bb_pos (by rfl), dd_pos (by rfl), dd_pos ⟨by decide, by exact (by decide : (16 : Int) ≤ 26)⟩, dd_pos ⟨by decide, by exact (by decide : (10 : Int) ≤ 10)⟩, opt_some (x := 0) (by rfl), opt_some (x := 0) (by rfl), dd_pos ⟨by rfl, by rfl, by exact (by decide : 26 ≤ 26)⟩, Tw.run_ret, e1, t1]
  rfl
 have s2 : (book_Lay.l10 s.c0.x0 s.c0.x1 s.c0.x2 s.c0.x3 s.c0.x4 s.c0.x5 s.c0.x6 s.c0.x7 s.c0.x8 s.c0.x9 s.c0.x10 s.c1.x0 s.c1.x1 s.c1.x2 s.c1.x3 s.c1.x4 s.c1.x5 s.c1.x6 s.c1.x7 s.c1.x8 s.c1.x9 s.c1.x10 2 [h0, h1, h2, h3, h4, h5, s.c0.x0 + 65536 * s.c0.x1, s.c0.x2, s.c0.x3, s.c0.x4, s.c0.x5, s.c0.x6, s.c0.x7, s.c0.x8, s.c0.x9, s.c0.x10, s.c1.x0 + 65536 * s.c1.x1, s.c1.x2, s.c1.x3, s.c1.x4, s.c1.x5, s.c1.x6, s.c1.x7, s.c1.x8, s.c1.x9, s.c1.x10]).run = some (.inr [h0, h1, h2, h3, h4, h5, s.c0.x0 + 65536 * s.c0.x1, s.c0.x2, s.c0.x3, s.c0.x4, s.c0.x5, s.c0.x6, s.c0.x7, s.c0.x8, s.c0.x9, s.c0.x10, s.c1.x0 + 65536 * s.c1.x1, s.c1.x2, s.c1.x3, s.c1.x4, s.c1.x5, s.c1.x6, s.c1.x7, s.c1.x8, s.c1.x9, s.c1.x10]) := by
  simp only [book_Lay.l10]
  rw [bb_neg (by rfl), Tw.run_ret]
 exact (Lp_next s0).trans ((Lp_next s1).trans (Lp_end s2))
theorem book_Lay_eq (s : SA) : book_Lay.c s.m s.a s.l s.f s.t s.c0.x0 s.c0.x1 s.c0.x2 s.c0.x3 s.c0.x4 s.c0.x5 s.c0.x6 s.c0.x7 s.c0.x8 s.c0.x9 s.c0.x10 s.c1.x0 s.c1.x1 s.c1.x2 s.c1.x3 s.c1.x4 s.c1.x5 s.c1.x6 s.c1.x7 s.c1.x8 s.c1.x9 s.c1.x10 s.r s.g s.r2 s.g2 = some (if RightS s then (0, layB s) else (2, [])) := by
 simp only [book_Lay.c, book_Lay.t]
 rw [opt_some (book_Right_eq s)]
 by_cases h : RightS s
 rotate_left
 ·rw [decide_eq_false h, bb_pos (by rfl), Tw.run_ret, if_neg h]
 rw [decide_eq_true h, bb_neg (by rfl), if_pos h]
 have hb := bnd_of h
 have b1 := hb.m; have b2 := hb.a; have b3 := hb.l; have b4 := hb.t; have b5 := hb.r; have b6 := hb.g; have b7 := hb.r2; have b8 := hb.g2
 have ef := first_eq (m := s.m) (a := s.a) (l := s.l) (by omega) (by omega) (by omega)
 have et : w32 s.t = s.t := w32_of (by omega) (by omega)
 have er : w32 s.r = s.r := w32_of (by omega) (by omega)
 have eg : w32 s.g = s.g := w32_of (by omega) (by omega)
 have er2 : w32 (w64 (s.r2 + 1)) = s.r2 + 1 := by rw [w64_of (by omega) (by omega), w32_of (by omega) (by omega)]
 have eg2 : w32 s.g2 = s.g2 := w32_of (by omega) (by omega)
 rw [ef, et, er, eg, er2, eg2]
 cases hf : s.f with
 | true =>
  have e5 : bOr .u32 (s.m + 256 * s.a + 65536 * s.l) 16777216 = s.m + 256 * s.a + 65536 * s.l + 16777216 := by
   rw [bOr_comm, bOr_add 24 (by omega) (by omega) (by omega) (by decide) (by omega) (by omega)]
   omega
  rw [bb_pos (by rfl), e5, opt_some (x := layB s) (by unfold layB; rw [hf]; exact book_L10_eq hb ..), Tw.run_ret]
 | false =>
  rw [bb_neg (by rfl), opt_some (x := layB s) (by unfold layB; rw [hf, show s.m + 256 * s.a + 65536 * s.l + fallN false = s.m + 256 * s.a + 65536 * s.l by show _ + 0 = _; omega]; exact book_L10_eq hb ..), Tw.run_ret]

theorem ref34_L11_eq (i : Int) (s : SA) (h : List Int) (hl : h.length ≤ 1000) (c : Cd) : ref34_Lay.L11 i 0 s.m s.a s.l s.f s.t s.c0.x0 s.c0.x1 s.c0.x2 s.c0.x3 s.c0.x4 s.c0.x5 s.c0.x6 s.c0.x7 s.c0.x8 s.c0.x9 s.c0.x10 s.c1.x0 s.c1.x1 s.c1.x2 s.c1.x3 s.c1.x4 s.c1.x5 s.c1.x6 s.c1.x7 s.c1.x8 s.c1.x9 s.c1.x10 s.r s.g s.r2 s.g2 h c.x0 c.x1 c.x2 c.x3 c.x4 c.x5 c.x6 c.x7 c.x8 c.x9 c.x10 = some (h ++ [c.x3, c.x4, c.x5, c.x6, c.x7, c.x8, c.x9, c.x10]) := by
 unfold ref34_Lay.L11
 have s0 : (ref34_Lay.l11 i s.m s.a s.l s.f s.t s.c0.x0 s.c0.x1 s.c0.x2 s.c0.x3 s.c0.x4 s.c0.x5 s.c0.x6 s.c0.x7 s.c0.x8 s.c0.x9 s.c0.x10 s.c1.x0 s.c1.x1 s.c1.x2 s.c1.x3 s.c1.x4 s.c1.x5 s.c1.x6 s.c1.x7 s.c1.x8 s.c1.x9 s.c1.x10 s.r s.g s.r2 s.g2 c.x0 c.x1 c.x2 c.x3 c.x4 c.x5 c.x6 c.x7 c.x8 c.x9 c.x10 0 (h)).run = some (.inl (1, h ++ [c.x3])) := by
  simp only [ref34_Lay.l11]
  rw [bb_pos (by rfl), dd_neg (by decide), dd_neg (by decide), dd_neg (by decide), dd_neg (by decide), dd_neg (by decide), dd_neg (by decide), dd_neg (by decide), dd_pos (by rfl), dd_pos (by simp only [List.length_append, List.length_cons, List.length_nil]; omega), Tw.run_ret]
  rfl
 have s1 : (ref34_Lay.l11 i s.m s.a s.l s.f s.t s.c0.x0 s.c0.x1 s.c0.x2 s.c0.x3 s.c0.x4 s.c0.x5 s.c0.x6 s.c0.x7 s.c0.x8 s.c0.x9 s.c0.x10 s.c1.x0 s.c1.x1 s.c1.x2 s.c1.x3 s.c1.x4 s.c1.x5 s.c1.x6 s.c1.x7 s.c1.x8 s.c1.x9 s.c1.x10 s.r s.g s.r2 s.g2 c.x0 c.x1 c.x2 c.x3 c.x4 c.x5 c.x6 c.x7 c.x8 c.x9 c.x10 1 (h ++ [c.x3])).run = some (.inl (2, h ++ [c.x3] ++ [c.x4])) := by
  simp only [ref34_Lay.l11]
  rw [bb_pos (by rfl), dd_neg (by decide), dd_neg (by decide), dd_neg (by decide), dd_neg (by decide), dd_neg (by decide), dd_neg (by decide), dd_pos (by rfl), dd_pos (by simp only [List.length_append, List.length_cons, List.length_nil]; omega), Tw.run_ret]
  rfl
 have s2 : (ref34_Lay.l11 i s.m s.a s.l s.f s.t s.c0.x0 s.c0.x1 s.c0.x2 s.c0.x3 s.c0.x4 s.c0.x5 s.c0.x6 s.c0.x7 s.c0.x8 s.c0.x9 s.c0.x10 s.c1.x0 s.c1.x1 s.c1.x2 s.c1.x3 s.c1.x4 s.c1.x5 s.c1.x6 s.c1.x7 s.c1.x8 s.c1.x9 s.c1.x10 s.r s.g s.r2 s.g2 c.x0 c.x1 c.x2 c.x3 c.x4 c.x5 c.x6 c.x7 c.x8 c.x9 c.x10 2 (h ++ [c.x3] ++ [c.x4])).run = some (.inl (3, h ++ [c.x3] ++ [c.x4] ++ [c.x5])) := by
  simp only [ref34_Lay.l11]
  rw [bb_pos (by rfl), dd_neg (by decide), dd_neg (by decide), dd_neg (by decide), dd_neg (by decide), dd_neg (by decide), dd_pos (by rfl), dd_pos (by simp only [List.length_append, List.length_cons, List.length_nil]; omega), Tw.run_ret]
  rfl
 have s3 : (ref34_Lay.l11 i s.m s.a s.l s.f s.t s.c0.x0 s.c0.x1 s.c0.x2 s.c0.x3 s.c0.x4 s.c0.x5 s.c0.x6 s.c0.x7 s.c0.x8 s.c0.x9 s.c0.x10 s.c1.x0 s.c1.x1 s.c1.x2 s.c1.x3 s.c1.x4 s.c1.x5 s.c1.x6 s.c1.x7 s.c1.x8 s.c1.x9 s.c1.x10 s.r s.g s.r2 s.g2 c.x0 c.x1 c.x2 c.x3 c.x4 c.x5 c.x6 c.x7 c.x8 c.x9 c.x10 3 (h ++ [c.x3] ++ [c.x4] ++ [c.x5])).run = some (.inl (4, h ++ [c.x3] ++ [c.x4] ++ [c.x5] ++ [c.x6])) := by
  simp only [ref34_Lay.l11]
  rw [bb_pos (by rfl), dd_neg (by decide), dd_neg (by decide), dd_neg (by decide), dd_neg (by decide), dd_pos (by rfl), dd_pos (by simp only [List.length_append, List.length_cons, List.length_nil]; omega), Tw.run_ret]
  rfl
 have s4 : (ref34_Lay.l11 i s.m s.a s.l s.f s.t s.c0.x0 s.c0.x1 s.c0.x2 s.c0.x3 s.c0.x4 s.c0.x5 s.c0.x6 s.c0.x7 s.c0.x8 s.c0.x9 s.c0.x10 s.c1.x0 s.c1.x1 s.c1.x2 s.c1.x3 s.c1.x4 s.c1.x5 s.c1.x6 s.c1.x7 s.c1.x8 s.c1.x9 s.c1.x10 s.r s.g s.r2 s.g2 c.x0 c.x1 c.x2 c.x3 c.x4 c.x5 c.x6 c.x7 c.x8 c.x9 c.x10 4 (h ++ [c.x3] ++ [c.x4] ++ [c.x5] ++ [c.x6])).run = some (.inl (5, h ++ [c.x3] ++ [c.x4] ++ [c.x5] ++ [c.x6] ++ [c.x7])) := by
  simp only [ref34_Lay.l11]
  rw [bb_pos (by rfl), dd_neg (by decide), dd_neg (by decide), dd_neg (by decide), dd_pos (by rfl), dd_pos (by simp only [List.length_append, List.length_cons, List.length_nil]; omega), Tw.run_ret]
  rfl
 have s5 : (ref34_Lay.l11 i s.m s.a s.l s.f s.t s.c0.x0 s.c0.x1 s.c0.x2 s.c0.x3 s.c0.x4 s.c0.x5 s.c0.x6 s.c0.x7 s.c0.x8 s.c0.x9 s.c0.x10 s.c1.x0 s.c1.x1 s.c1.x2 s.c1.x3 s.c1.x4 s.c1.x5 s.c1.x6 s.c1.x7 s.c1.x8 s.c1.x9 s.c1.x10 s.r s.g s.r2 s.g2 c.x0 c.x1 c.x2 c.x3 c.x4 c.x5 c.x6 c.x7 c.x8 c.x9 c.x10 5 (h ++ [c.x3] ++ [c.x4] ++ [c.x5] ++ [c.x6] ++ [c.x7])).run = some (.inl (6, h ++ [c.x3] ++ [c.x4] ++ [c.x5] ++ [c.x6] ++ [c.x7] ++ [c.x8])) := by
  simp only [ref34_Lay.l11]
  rw [bb_pos (by rfl), dd_neg (by decide), dd_neg (by decide), dd_pos (by rfl), dd_pos (by simp only [List.length_append, List.length_cons, List.length_nil]; omega), Tw.run_ret]
  rfl
 have s6 : (ref34_Lay.l11 i s.m s.a s.l s.f s.t s.c0.x0 s.c0.x1 s.c0.x2 s.c0.x3 s.c0.x4 s.c0.x5 s.c0.x6 s.c0.x7 s.c0.x8 s.c0.x9 s.c0.x10 s.c1.x0 s.c1.x1 s.c1.x2 s.c1.x3 s.c1.x4 s.c1.x5 s.c1.x6 s.c1.x7 s.c1.x8 s.c1.x9 s.c1.x10 s.r s.g s.r2 s.g2 c.x0 c.x1 c.x2 c.x3 c.x4 c.x5 c.x6 c.x7 c.x8 c.x9 c.x10 6 (h ++ [c.x3] ++ [c.x4] ++ [c.x5] ++ [c.x6] ++ [c.x7] ++ [c.x8])).run = some (.inl (7, h ++ [c.x3] ++ [c.x4] ++ [c.x5] ++ [c.x6] ++ [c.x7] ++ [c.x8] ++ [c.x9])) := by
  simp only [ref34_Lay.l11]
  rw [bb_pos (by rfl), dd_neg (by decide), dd_pos (by rfl), dd_pos (by simp only [List.length_append, List.length_cons, List.length_nil]; omega), Tw.run_ret]
  rfl
 have s7 : (ref34_Lay.l11 i s.m s.a s.l s.f s.t s.c0.x0 s.c0.x1 s.c0.x2 s.c0.x3 s.c0.x4 s.c0.x5 s.c0.x6 s.c0.x7 s.c0.x8 s.c0.x9 s.c0.x10 s.c1.x0 s.c1.x1 s.c1.x2 s.c1.x3 s.c1.x4 s.c1.x5 s.c1.x6 s.c1.x7 s.c1.x8 s.c1.x9 s.c1.x10 s.r s.g s.r2 s.g2 c.x0 c.x1 c.x2 c.x3 c.x4 c.x5 c.x6 c.x7 c.x8 c.x9 c.x10 7 (h ++ [c.x3] ++ [c.x4] ++ [c.x5] ++ [c.x6] ++ [c.x7] ++ [c.x8] ++ [c.x9])).run = some (.inl (8, h ++ [c.x3] ++ [c.x4] ++ [c.x5] ++ [c.x6] ++ [c.x7] ++ [c.x8] ++ [c.x9] ++ [c.x10])) := by
  simp only [ref34_Lay.l11]
  rw [bb_pos (by rfl), dd_pos (by rfl), dd_pos (by simp only [List.length_append, List.length_cons, List.length_nil]; omega), Tw.run_ret]
  rfl
 have s8 : (ref34_Lay.l11 i s.m s.a s.l s.f s.t s.c0.x0 s.c0.x1 s.c0.x2 s.c0.x3 s.c0.x4 s.c0.x5 s.c0.x6 s.c0.x7 s.c0.x8 s.c0.x9 s.c0.x10 s.c1.x0 s.c1.x1 s.c1.x2 s.c1.x3 s.c1.x4 s.c1.x5 s.c1.x6 s.c1.x7 s.c1.x8 s.c1.x9 s.c1.x10 s.r s.g s.r2 s.g2 c.x0 c.x1 c.x2 c.x3 c.x4 c.x5 c.x6 c.x7 c.x8 c.x9 c.x10 8 (h ++ [c.x3] ++ [c.x4] ++ [c.x5] ++ [c.x6] ++ [c.x7] ++ [c.x8] ++ [c.x9] ++ [c.x10])).run = some (.inr (h ++ [c.x3] ++ [c.x4] ++ [c.x5] ++ [c.x6] ++ [c.x7] ++ [c.x8] ++ [c.x9] ++ [c.x10])) := by
  simp only [ref34_Lay.l11]
  rw [bb_neg (by rfl), Tw.run_ret]
 have key : Lp (fun z : Int × List Int => (ref34_Lay.l11 i s.m s.a s.l s.f s.t s.c0.x0 s.c0.x1 s.c0.x2 s.c0.x3 s.c0.x4 s.c0.x5 s.c0.x6 s.c0.x7 s.c0.x8 s.c0.x9 s.c0.x10 s.c1.x0 s.c1.x1 s.c1.x2 s.c1.x3 s.c1.x4 s.c1.x5 s.c1.x6 s.c1.x7 s.c1.x8 s.c1.x9 s.c1.x10 s.r s.g s.r2 s.g2 c.x0 c.x1 c.x2 c.x3 c.x4 c.x5 c.x6 c.x7 c.x8 c.x9 c.x10 z.1 z.2).run) (0, h) = some (h ++ [c.x3] ++ [c.x4] ++ [c.x5] ++ [c.x6] ++ [c.x7] ++ [c.x8] ++ [c.x9] ++ [c.x10]) := (Lp_next s0).trans ((Lp_next s1).trans ((Lp_next s2).trans ((Lp_next s3).trans ((Lp_next s4).trans ((Lp_next s5).trans ((Lp_next s6).trans ((Lp_next s7).trans (Lp_end s8))))))))
 exact key.trans (by simp)
theorem ref34_Lay_eq {s : SA} (h : RightS s) : ref34_Lay.c s.m s.a s.l s.f s.t s.c0.x0 s.c0.x1 s.c0.x2 s.c0.x3 s.c0.x4 s.c0.x5 s.c0.x6 s.c0.x7 s.c0.x8 s.c0.x9 s.c0.x10 s.c1.x0 s.c1.x1 s.c1.x2 s.c1.x3 s.c1.x4 s.c1.x5 s.c1.x6 s.c1.x7 s.c1.x8 s.c1.x9 s.c1.x10 s.r s.g s.r2 s.g2 = some (layB s) := by
 have hb := bnd_of h
 have b1 := hb.m; have b2 := hb.a; have b3 := hb.l; have b4 := hb.t; have b5 := hb.r; have b6 := hb.g; have b7 := hb.r2; have b8 := hb.g2; have b9 := hb.c0; have b10 := hb.c1
 have cd : ∀ {a b : Int}, (0 ≤ a ∧ a ≤ 65535) → (0 ≤ b ∧ b ≤ 65535) → w32 (w32 a + w32 (65536 * w32 b)) = a + 65536 * b := fun {a b} ha hb => by
  rw [w32_of (n := a) (by omega) (by omega), w32_of (n := b) (by omega) (by omega), w32_of (n := 65536 * b) (by omega) (by omega), w32_of (by omega) (by omega)]
 have t0 : w32 s.c0.x2 = s.c0.x2 := w32_of (by omega) (by omega)
 have t1 : w32 s.c1.x2 = s.c1.x2 := w32_of (by omega) (by omega)
 have hL : ∀ h0 h1 h2 h3 h4 h5 : Int, ref34_Lay.L6 0 s.m s.a s.l s.f s.t s.c0.x0 s.c0.x1 s.c0.x2 s.c0.x3 s.c0.x4 s.c0.x5 s.c0.x6 s.c0.x7 s.c0.x8 s.c0.x9 s.c0.x10 s.c1.x0 s.c1.x1 s.c1.x2 s.c1.x3 s.c1.x4 s.c1.x5 s.c1.x6 s.c1.x7 s.c1.x8 s.c1.x9 s.c1.x10 s.r s.g s.r2 s.g2 [h0, h1, h2, h3, h4, h5] = some [h0, h1, h2, h3, h4, h5, s.c0.x0 + 65536 * s.c0.x1, s.c0.x2, s.c0.x3, s.c0.x4, s.c0.x5, s.c0.x6, s.c0.x7, s.c0.x8, s.c0.x9, s.c0.x10, s.c1.x0 + 65536 * s.c1.x1, s.c1.x2, s.c1.x3, s.c1.x4, s.c1.x5, s.c1.x6, s.c1.x7, s.c1.x8, s.c1.x9, s.c1.x10] := fun h0 h1 h2 h3 h4 h5 => by
  unfold ref34_Lay.L6
  have s0 : (ref34_Lay.l6 s.m s.a s.l s.f s.t s.c0.x0 s.c0.x1 s.c0.x2 s.c0.x3 s.c0.x4 s.c0.x5 s.c0.x6 s.c0.x7 s.c0.x8 s.c0.x9 s.c0.x10 s.c1.x0 s.c1.x1 s.c1.x2 s.c1.x3 s.c1.x4 s.c1.x5 s.c1.x6 s.c1.x7 s.c1.x8 s.c1.x9 s.c1.x10 s.r s.g s.r2 s.g2 0 [h0, h1, h2, h3, h4, h5]).run = some (.inl (1, [h0, h1, h2, h3, h4, h5, s.c0.x0 + 65536 * s.c0.x1, s.c0.x2, s.c0.x3, s.c0.x4, s.c0.x5, s.c0.x6, s.c0.x7, s.c0.x8, s.c0.x9, s.c0.x10])) := by
   simp only [ref34_Lay.l6]
   rw [bb_pos (by rfl), dd_neg (by decide), dd_pos (by rfl), dd_pos (by simp only [List.length_cons, List.length_nil]; omega), cd b9.1 b9.2.1, t0, opt_some (ref34_L11_eq _ s _ (by simp only [List.length_append, List.length_cons, List.length_nil]; omega) s.c0), Tw.run_ret]
   rfl
  have s1 : (ref34_Lay.l6 s.m s.a s.l s.f s.t s.c0.x0 s.c0.x1 s.c0.x2 s.c0.x3 s.c0.x4 s.c0.x5 s.c0.x6 s.c0.x7 s.c0.x8 s.c0.x9 s.c0.x10 s.c1.x0 s.c1.x1 s.c1.x2 s.c1.x3 s.c1.x4 s.c1.x5 s.c1.x6 s.c1.x7 s.c1.x8 s.c1.x9 s.c1.x10 s.r s.g s.r2 s.g2 1 [h0, h1, h2, h3, h4, h5, s.c0.x0 + 65536 * s.c0.x1, s.c0.x2, s.c0.x3, s.c0.x4, s.c0.x5, s.c0.x6, s.c0.x7, s.c0.x8, s.c0.x9, s.c0.x10]).run = some (.inl (2, [h0, h1, h2, h3, h4, h5, s.c0.x0 + 65536 * s.c0.x1, s.c0.x2, s.c0.x3, s.c0.x4, s.c0.x5, s.c0.x6, s.c0.x7, s.c0.x8, s.c0.x9, s.c0.x10, s.c1.x0 + 65536 * s.c1.x1, s.c1.x2, s.c1.x3, s.c1.x4, s.c1.x5, s.c1.x6, s.c1.x7, s.c1.x8, s.c1.x9, s.c1.x10])) := by
   simp only [ref34_Lay.l6]
   rw [bb_pos (by rfl), dd_pos (by rfl), dd_pos (by simp only [List.length_cons, List.length_nil]; omega), cd b10.1 b10.2.1, t1, opt_some (ref34_L11_eq _ s _ (by simp only [List.length_append, List.length_cons, List.length_nil]; omega) s.c1), Tw.run_ret]
   rfl
  have s2 : (ref34_Lay.l6 s.m s.a s.l s.f s.t s.c0.x0 s.c0.x1 s.c0.x2 s.c0.x3 s.c0.x4 s.c0.x5 s.c0.x6 s.c0.x7 s.c0.x8 s.c0.x9 s.c0.x10 s.c1.x0 s.c1.x1 s.c1.x2 s.c1.x3 s.c1.x4 s.c1.x5 s.c1.x6 s.c1.x7 s.c1.x8 s.c1.x9 s.c1.x10 s.r s.g s.r2 s.g2 2 [h0, h1, h2, h3, h4, h5, s.c0.x0 + 65536 * s.c0.x1, s.c0.x2, s.c0.x3, s.c0.x4, s.c0.x5, s.c0.x6, s.c0.x7, s.c0.x8, s.c0.x9, s.c0.x10, s.c1.x0 + 65536 * s.c1.x1, s.c1.x2, s.c1.x3, s.c1.x4, s.c1.x5, s.c1.x6, s.c1.x7, s.c1.x8, s.c1.x9, s.c1.x10]).run = some (.inr [h0, h1, h2, h3, h4, h5, s.c0.x0 + 65536 * s.c0.x1, s.c0.x2, s.c0.x3, s.c0.x4, s.c0.x5, s.c0.x6, s.c0.x7, s.c0.x8, s.c0.x9, s.c0.x10, s.c1.x0 + 65536 * s.c1.x1, s.c1.x2, s.c1.x3, s.c1.x4, s.c1.x5, s.c1.x6, s.c1.x7, s.c1.x8, s.c1.x9, s.c1.x10]) := by
   simp only [ref34_Lay.l6]
   rw [bb_neg (by rfl), Tw.run_ret]
  exact (Lp_next s0).trans ((Lp_next s1).trans (Lp_end s2))
 simp only [ref34_Lay.c, ref34_Lay.t]
 have e1 : w32 s.m = s.m := w32_of (by omega) (by omega)
 have e2 : w32 s.a = s.a := w32_of (by omega) (by omega)
 have e3 : w32 s.l = s.l := w32_of (by omega) (by omega)
 have e4 : w32 (256 * s.a) = 256 * s.a := w32_of (by omega) (by omega)
 have e5 : w32 (65536 * s.l) = 65536 * s.l := w32_of (by omega) (by omega)
 have e6 : w32 (s.m + 256 * s.a) = s.m + 256 * s.a := w32_of (by omega) (by omega)
 have e7 : w32 (s.m + 256 * s.a + 65536 * s.l) = s.m + 256 * s.a + 65536 * s.l := w32_of (by omega) (by omega)
 have e8 : w32 (s.m + 256 * s.a + 65536 * s.l + 16777216) = s.m + 256 * s.a + 65536 * s.l + 16777216 := w32_of (by omega) (by omega)
 have et : w32 s.t = s.t := w32_of (by omega) (by omega)
 have er : w32 s.r = s.r := w32_of (by omega) (by omega)
 have eg : w32 s.g = s.g := w32_of (by omega) (by omega)
 have er2 : w32 (w64 (s.r2 + 1)) = s.r2 + 1 := by rw [w64_of (by omega) (by omega), w32_of (by omega) (by omega)]
 have eg2 : w32 s.g2 = s.g2 := w32_of (by omega) (by omega)
 rw [e1, e2, e3, e4, e5, e6, e7, e8, et, er, eg, er2, eg2]
 by_cases hf : s.f = true
 ·have e : fallN s.f = 16777216 := if_pos hf
  rw [bb_pos hf, opt_some (hL ..), Tw.run_ret]
  unfold layB
  rw [e]
 ·have e : fallN s.f = 0 := if_neg hf
  rw [bb_neg (by simpa using hf), opt_some (hL ..), Tw.run_ret]
  unfold layB
  rw [e, Int.add_zero]

def decB (f : Bool) (w0 w1 w2 w3 w4 w5 w6 w7 w8 w9 w10 w11 w12 w13 w14 w15 w16 w17 w18 w19 w20 w21 w22 w23 w24 w25 : Int) : SA := ⟨w0 % 256, w0 / 256 % 256, w0 / 65536 % 256, f, w1, ⟨w6 % 65536, w6 / 65536, w7, w8, w9, w10, w11, w12, w13, w14, w15⟩, ⟨w16 % 65536, w16 / 65536, w17, w18, w19, w20, w21, w22, w23, w24, w25⟩, w2, w3, w4 - 1, w5⟩
theorem len26 {l : List Int} (h : l.length = 26) : ∃ w0 w1 w2 w3 w4 w5 w6 w7 w8 w9 w10 w11 w12 w13 w14 w15 w16 w17 w18 w19 w20 w21 w22 w23 w24 w25, l = [w0, w1, w2, w3, w4, w5, w6, w7, w8, w9, w10, w11, w12, w13, w14, w15, w16, w17, w18, w19, w20, w21, w22, w23, w24, w25] := by
 match l, h with
 | [w0, w1, w2, w3, w4, w5, w6, w7, w8, w9, w10, w11, w12, w13, w14, w15, w16, w17, w18, w19, w20, w21, w22, w23, w24, w25], _ => exact ⟨_, _, _, _, _, _, _, _, _, _, _, _, _, _, _, _, _, _, _, _, _, _, _, _, _, _, rfl⟩
theorem equal32_eq {a b : List Int} (ha : a.length ≤ 1000) (hb : b.length ≤ 1000) : slices_Equal__uint32uint32.c a b = some (decide (a = b)) := by
 simp only [slices_Equal__uint32uint32.c, slices_Equal__uint32uint32.t]
 by_cases h : ((a.length : Nat) : Int) = ((b.length : Nat) : Int)
 rotate_left
 ·rw [bb_pos (by simpa using h), Tw.run_ret, decide_eq_false (fun g => h (by rw [g]))]
 have hlen : a.length = b.length := by omega
 rw [bb_neg (by simpa using h)]
 have key : ∃ r, slices_Equal__uint32uint32.L4 a b (a.length : Int) 0 = some r ∧ ((r = .inl () ∧ a = b) ∨ (r = .inr false ∧ a ≠ b)) := by
  unfold slices_Equal__uint32uint32.L4
  refine Lp_inv _ (fun s : Int => 0 ≤ s ∧ s ≤ (a.length : Int) ∧ a.take s.toNat = b.take s.toNat) (fun s : Int => a.length - s.toNat) _ (fun s hs => ?_) a.length 0 (by simp) ⟨by omega, by omega, by simp⟩
  obtain ⟨h0, h1, h2⟩ := hs
  simp only [slices_Equal__uint32uint32.l4]
  by_cases hlt : s < (a.length : Int)
  ·have ea := getD_some 0 (show s.toNat < a.length by omega)
   have eb := getD_some 0 (show s.toNat < b.length by omega)
   rw [bb_pos (decide_eq_true hlt), dd_pos h0, opt_some ea, dd_pos h0, opt_some eb]
   by_cases hc : a.getD s.toNat 0 = b.getD s.toNat 0
   ·refine Or.inl ⟨s + 1, by rw [bb_neg (by rw [hc]; simp), Tw.run_ret, w64_of (by omega) (by omega)], ⟨by omega, by omega, ?_⟩, by omega⟩
    rw [show (s + 1).toNat = s.toNat + 1 by omega, take_snoc 0 (by omega), take_snoc 0 (by omega), h2, hc]
   ·refine Or.inr ⟨.inr false, by rw [bb_pos (by simpa using hc), Tw.run_ret], Or.inr ⟨rfl, fun he => hc (by rw [he])⟩⟩
  ·refine Or.inr ⟨.inl (), by rw [bb_neg (decide_eq_false hlt), Tw.run_ret], Or.inl ⟨rfl, ?_⟩⟩
   rw [List.take_of_length_le (by omega), List.take_of_length_le (by omega)] at h2
   exact h2
 obtain ⟨r, hr, hq⟩ := key
 rw [opt_some hr]
 rcases hq with ⟨rfl, hq⟩ | ⟨rfl, hq⟩
 ·rw [sm_inl, Tw.run_ret, decide_eq_true hq]
 ·rw [sm_inr, Tw.run_ret, decide_eq_false hq]
theorem tmod_of {a : Int} (ha : 0 ≤ a) (n : Nat) : Int.tmod a (n : Int) = a % (n : Int) := Int.tmod_eq_emod_of_nonneg ha
theorem tdiv_of {a : Int} (ha : 0 ≤ a) (n : Nat) : Int.tdiv a (n : Int) = a / (n : Int) := Int.tdiv_eq_ediv_of_nonneg ha
theorem and255 {a : Int} (h : 0 ≤ a ∧ a < 9223372036854775808) : bAnd .i64 a 255 = a % 256 := by
 obtain ⟨x, rfl⟩ := Int.eq_ofNat_of_zero_le h.1
 have hx : x &&& 255 < 2 ^ 63 := Nat.and_lt_two_pow _ (by decide)
 show w64 ((BitVec.ofInt 64 (x : Int) &&& BitVec.ofInt 64 ((255 : Nat) : Int)).toNat : Int) = _
 rw [BitVec.ofInt_natCast, BitVec.ofInt_natCast, BitVec.toNat_and, BitVec.toNat_ofNat, BitVec.toNat_ofNat, Nat.mod_eq_of_lt (by omega), Nat.mod_eq_of_lt (by omega)]
 rw [w64_of (by omega) (by omega), show (255 : Nat) = 2 ^ 8 - 1 by decide, Nat.and_two_pow_sub_one_eq_mod]
 omega
theorem shr64 (a : Int) (k : Nat) (hk : k ≤ 64) : bShr .i64 a (k : Int) = a / 2 ^ k := by
 show a.fdiv (2 ^ min ((k : Int).toNat) 64) = _
 rw [Int.toNat_natCast, Nat.min_eq_left hk, Int.fdiv_eq_ediv_of_nonneg]
 exact Int.le_of_lt (Int.pow_pos (by decide))

section
variable {w0 w1 w2 w3 w4 w5 w6 w7 w8 w9 w10 w11 w12 w13 w14 w15 w16 w17 w18 w19 w20 w21 w22 w23 w24 w25 : Int} (q0 : InR .u32 w0) (q1 : InR .u32 w1) (q2 : InR .u32 w2) (q3 : InR .u32 w3) (q4 : InR .u32 w4) (q5 : InR .u32 w5) (q6 : InR .u32 w6) (q7 : InR .u32 w7) (q8 : InR .u32 w8) (q9 : InR .u32 w9) (q10 : InR .u32 w10) (q11 : InR .u32 w11) (q12 : InR .u32 w12) (q13 : InR .u32 w13) (q14 : InR .u32 w14) (q15 : InR .u32 w15) (q16 : InR .u32 w16) (q17 : InR .u32 w17) (q18 : InR .u32 w18) (q19 : InR .u32 w19) (q20 : InR .u32 w20) (q21 : InR .u32 w21) (q22 : InR .u32 w22) (q23 : InR .u32 w23) (q24 : InR .u32 w24) (q25 : InR .u32 w25)
include q0 q1 q2 q3 q4 q5 q6 q7 q8 q9 q10 q11 q12 q13 q14 q15 q16 q17 q18 q19 q20 q21 q22 q23 q24 q25
omit q0 q1 q2 q3 q4 q5 q8 q9 q10 q11 q12 q13 q14 q15 q18 q19 q20 q21 q22 q23 q24 q25 in
theorem book_L7_eq (s0 : SA) (b0 b1 b2 : Int) (bf : Bool) (b4 b27 b28 b29 b30 : Int) : book_Take.L7 [w0, w1, w2, w3, w4, w5, w6, w7, w8, w9, w10, w11, w12, w13, w14, w15, w16, w17, w18, w19, w20, w21, w22, w23, w24, w25] 0 s0.m s0.a s0.l s0.f s0.t s0.c0.x0 s0.c0.x1 s0.c0.x2 s0.c0.x3 s0.c0.x4 s0.c0.x5 s0.c0.x6 s0.c0.x7 s0.c0.x8 s0.c0.x9 s0.c0.x10 s0.c1.x0 s0.c1.x1 s0.c1.x2 s0.c1.x3 s0.c1.x4 s0.c1.x5 s0.c1.x6 s0.c1.x7 s0.c1.x8 s0.c1.x9 s0.c1.x10 s0.r s0.g s0.r2 s0.g2 b0 b1 b2 bf b4 0 0 0 0 0 0 0 0 0 0 0 0 0 0 0 0 0 0 0 0 0 0 b27 b28 b29 b30 = some (w6 % 65536, w6 / 65536, w7, w8, w9, w10, w11, w12, w13, w14, w15, w16 % 65536, w16 / 65536, w17, w18, w19, w20, w21, w22, w23, w24, w25) := by
 have v6 := q6.u32; have v7 := q7.u32; have v16 := q16.u32; have v17 := q17.u32
 have m6 : w64 (bAnd .u32 w6 65535) = w6 % 65536 := by rw [show (65535 : Int) = ((2 ^ 16 - 1 : Nat) : Int) from rfl, bAnd_mask 16 (by omega) v6, w64_of (by omega) (by omega)]; rfl
 have d6 : w64 (bShr .u32 w6 16) = w6 / 65536 := by rw [show (16 : Int) = ((16 : Nat) : Int) from rfl, bShr_u32 _ 16 (by omega), w64_of (by omega) (by omega)]; rfl
 have t6 : w64 w7 = w7 := w64_of (by omega) (by omega)
 have m16 : w64 (bAnd .u32 w16 65535) = w16 % 65536 := by rw [show (65535 : Int) = ((2 ^ 16 - 1 : Nat) : Int) from rfl, bAnd_mask 16 (by omega) v16, w64_of (by omega) (by omega)]; rfl
 have d16 : w64 (bShr .u32 w16 16) = w16 / 65536 := by rw [show (16 : Int) = ((16 : Nat) : Int) from rfl, bShr_u32 _ 16 (by omega), w64_of (by omega) (by omega)]; rfl
 have t16 : w64 w17 = w17 := w64_of (by omega) (by omega)
 unfold book_Take.L7
 have s1 : (book_Take.l7 [w0, w1, w2, w3, w4, w5, w6, w7, w8, w9, w10, w11, w12, w13, w14, w15, w16, w17, w18, w19, w20, w21, w22, w23, w24, w25] s0.m s0.a s0.l s0.f s0.t s0.c0.x0 s0.c0.x1 s0.c0.x2 s0.c0.x3 s0.c0.x4 s0.c0.x5 s0.c0.x6 s0.c0.x7 s0.c0.x8 s0.c0.x9 s0.c0.x10 s0.c1.x0 s0.c1.x1 s0.c1.x2 s0.c1.x3 s0.c1.x4 s0.c1.x5 s0.c1.x6 s0.c1.x7 s0.c1.x8 s0.c1.x9 s0.c1.x10 s0.r s0.g s0.r2 s0.g2 b0 b1 b2 bf b4 b27 b28 b29 b30 0 0 0 0 0 0 0 0 0 0 0 0 0 0 0 0 0 0 0 0 0 0 0 ).run = some (.inl (1, w6 % 65536, w6 / 65536, w7, w8, w9, w10, w11, w12, w13, w14, w15, 0, 0, 0, 0, 0, 0, 0, 0, 0, 0, 0)) := by
  simp only [book_Take.l7]
  rw [bb_pos (by rfl), dd_pos ⟨by decide, by exact (by decide : (6 : Int) ≤ 26)⟩, dd_pos ⟨by decide, by exact (by decide : (10 : Int) ≤ 20)⟩, opt_some (x := w6) (by rfl), opt_some (x := w6) (by rfl), opt_some (x := w7) (by rfl), dd_neg (by decide), dd_pos (by rfl), dd_neg (by decide), dd_pos (by rfl), dd_pos ⟨by decide, by exact (by decide : (2 : Int) ≤ 10)⟩, Tw.run_ret, m6, d6, t6]
  rfl
 have s2 : (book_Take.l7 [w0, w1, w2, w3, w4, w5, w6, w7, w8, w9, w10, w11, w12, w13, w14, w15, w16, w17, w18, w19, w20, w21, w22, w23, w24, w25] s0.m s0.a s0.l s0.f s0.t s0.c0.x0 s0.c0.x1 s0.c0.x2 s0.c0.x3 s0.c0.x4 s0.c0.x5 s0.c0.x6 s0.c0.x7 s0.c0.x8 s0.c0.x9 s0.c0.x10 s0.c1.x0 s0.c1.x1 s0.c1.x2 s0.c1.x3 s0.c1.x4 s0.c1.x5 s0.c1.x6 s0.c1.x7 s0.c1.x8 s0.c1.x9 s0.c1.x10 s0.r s0.g s0.r2 s0.g2 b0 b1 b2 bf b4 b27 b28 b29 b30 1 (w6 % 65536) (w6 / 65536) w7 w8 w9 w10 w11 w12 w13 w14 w15 0 0 0 0 0 0 0 0 0 0 0 ).run = some (.inl (2, w6 % 65536, w6 / 65536, w7, w8, w9, w10, w11, w12, w13, w14, w15, w16 % 65536, w16 / 65536, w17, w18, w19, w20, w21, w22, w23, w24, w25)) := by
  simp only [book_Take.l7]
  rw [bb_pos (by rfl), dd_pos ⟨by decide, by exact (by decide : (16 : Int) ≤ 26)⟩, dd_pos ⟨by decide, by exact (by decide : (10 : Int) ≤ 10)⟩, opt_some (x := w16) (by rfl), opt_some (x := w16) (by rfl), opt_some (x := w17) (by rfl), dd_pos (by rfl), dd_pos (by rfl), dd_pos ⟨by decide, by exact (by decide : (2 : Int) ≤ 10)⟩, Tw.run_ret, m16, d16, t16]
  rfl
 have s3 : (book_Take.l7 [w0, w1, w2, w3, w4, w5, w6, w7, w8, w9, w10, w11, w12, w13, w14, w15, w16, w17, w18, w19, w20, w21, w22, w23, w24, w25] s0.m s0.a s0.l s0.f s0.t s0.c0.x0 s0.c0.x1 s0.c0.x2 s0.c0.x3 s0.c0.x4 s0.c0.x5 s0.c0.x6 s0.c0.x7 s0.c0.x8 s0.c0.x9 s0.c0.x10 s0.c1.x0 s0.c1.x1 s0.c1.x2 s0.c1.x3 s0.c1.x4 s0.c1.x5 s0.c1.x6 s0.c1.x7 s0.c1.x8 s0.c1.x9 s0.c1.x10 s0.r s0.g s0.r2 s0.g2 b0 b1 b2 bf b4 b27 b28 b29 b30 2 (w6 % 65536) (w6 / 65536) w7 w8 w9 w10 w11 w12 w13 w14 w15 (w16 % 65536) (w16 / 65536) w17 w18 w19 w20 w21 w22 w23 w24 w25).run = some (.inr (w6 % 65536, w6 / 65536, w7, w8, w9, w10, w11, w12, w13, w14, w15, w16 % 65536, w16 / 65536, w17, w18, w19, w20, w21, w22, w23, w24, w25)) := by
  simp only [book_Take.l7]
  rw [bb_neg (by rfl), Tw.run_ret]
 exact (Lp_next s1).trans ((Lp_next s2).trans (Lp_end s3))
omit q0 q1 q2 q3 q4 q5 q6 q7 q8 q9 q10 q11 q12 q13 q14 q15 q16 q17 q18 q19 q20 q21 q22 q23 q24 q25 in
theorem ref34_L15_0 (s0 : SA) (b0 b1 b2 : Int) (bf : Bool) (b4 b5 b6 b7 b16 b17 b18 b27 b28 b29 b30 : Int) : ref34_Take.L15 [w0, w1, w2, w3, w4, w5, w6, w7, w8, w9, w10, w11, w12, w13, w14, w15, w16, w17, w18, w19, w20, w21, w22, w23, w24, w25] 0 6 0 s0.m s0.a s0.l s0.f s0.t s0.c0.x0 s0.c0.x1 s0.c0.x2 s0.c0.x3 s0.c0.x4 s0.c0.x5 s0.c0.x6 s0.c0.x7 s0.c0.x8 s0.c0.x9 s0.c0.x10 s0.c1.x0 s0.c1.x1 s0.c1.x2 s0.c1.x3 s0.c1.x4 s0.c1.x5 s0.c1.x6 s0.c1.x7 s0.c1.x8 s0.c1.x9 s0.c1.x10 s0.r s0.g s0.r2 s0.g2 b0 b1 b2 bf b4 b5 b6 b7 0 0 0 0 0 0 0 0 b16 b17 b18 0 0 0 0 0 0 0 0 b27 b28 b29 b30 = some (w8, w9, w10, w11, w12, w13, w14, w15, 0, 0, 0, 0, 0, 0, 0, 0) := by
 unfold ref34_Take.L15
 have g0 : (ref34_Take.l15 [w0, w1, w2, w3, w4, w5, w6, w7, w8, w9, w10, w11, w12, w13, w14, w15, w16, w17, w18, w19, w20, w21, w22, w23, w24, w25] 0 6 s0.m s0.a s0.l s0.f s0.t s0.c0.x0 s0.c0.x1 s0.c0.x2 s0.c0.x3 s0.c0.x4 s0.c0.x5 s0.c0.x6 s0.c0.x7 s0.c0.x8 s0.c0.x9 s0.c0.x10 s0.c1.x0 s0.c1.x1 s0.c1.x2 s0.c1.x3 s0.c1.x4 s0.c1.x5 s0.c1.x6 s0.c1.x7 s0.c1.x8 s0.c1.x9 s0.c1.x10 s0.r s0.g s0.r2 s0.g2 b0 b1 b2 bf b4 b5 b6 b7 b16 b17 b18 b27 b28 b29 b30 0 0 0 0 0 0 0 0 0 0 0 0 0 0 0 0 0).run = some (.inl (1, w8, 0, 0, 0, 0, 0, 0, 0, 0, 0, 0, 0, 0, 0, 0, 0)) := by
  simp only [ref34_Take.l15]
  rw [bb_pos (by rfl), dd_pos (by decide), opt_some (x := w8) (by rfl), dd_neg (by decide), dd_pos (by rfl), dd_neg (by decide), dd_neg (by decide), dd_neg (by decide), dd_neg (by decide), dd_neg (by decide), dd_neg (by decide), dd_neg (by decide), dd_pos (by rfl), Tw.run_ret]
  rfl
 have g1 : (ref34_Take.l15 [w0, w1, w2, w3, w4, w5, w6, w7, w8, w9, w10, w11, w12, w13, w14, w15, w16, w17, w18, w19, w20, w21, w22, w23, w24, w25] 0 6 s0.m s0.a s0.l s0.f s0.t s0.c0.x0 s0.c0.x1 s0.c0.x2 s0.c0.x3 s0.c0.x4 s0.c0.x5 s0.c0.x6 s0.c0.x7 s0.c0.x8 s0.c0.x9 s0.c0.x10 s0.c1.x0 s0.c1.x1 s0.c1.x2 s0.c1.x3 s0.c1.x4 s0.c1.x5 s0.c1.x6 s0.c1.x7 s0.c1.x8 s0.c1.x9 s0.c1.x10 s0.r s0.g s0.r2 s0.g2 b0 b1 b2 bf b4 b5 b6 b7 b16 b17 b18 b27 b28 b29 b30 1 w8 0 0 0 0 0 0 0 0 0 0 0 0 0 0 0).run = some (.inl (2, w8, w9, 0, 0, 0, 0, 0, 0, 0, 0, 0, 0, 0, 0, 0, 0)) := by
  simp only [ref34_Take.l15]
  rw [bb_pos (by rfl), dd_pos (by decide), opt_some (x := w9) (by rfl), dd_neg (by decide), dd_pos (by rfl), dd_neg (by decide), dd_neg (by decide), dd_neg (by decide), dd_neg (by decide), dd_neg (by decide), dd_neg (by decide), dd_pos (by rfl), Tw.run_ret]
  rfl
 have g2 : (ref34_Take.l15 [w0, w1, w2, w3, w4, w5, w6, w7, w8, w9, w10, w11, w12, w13, w14, w15, w16, w17, w18, w19, w20, w21, w22, w23, w24, w25] 0 6 s0.m s0.a s0.l s0.f s0.t s0.c0.x0 s0.c0.x1 s0.c0.x2 s0.c0.x3 s0.c0.x4 s0.c0.x5 s0.c0.x6 s0.c0.x7 s0.c0.x8 s0.c0.x9 s0.c0.x10 s0.c1.x0 s0.c1.x1 s0.c1.x2 s0.c1.x3 s0.c1.x4 s0.c1.x5 s0.c1.x6 s0.c1.x7 s0.c1.x8 s0.c1.x9 s0.c1.x10 s0.r s0.g s0.r2 s0.g2 b0 b1 b2 bf b4 b5 b6 b7 b16 b17 b18 b27 b28 b29 b30 2 w8 w9 0 0 0 0 0 0 0 0 0 0 0 0 0 0).run = some (.inl (3, w8, w9, w10, 0, 0, 0, 0, 0, 0, 0, 0, 0, 0, 0, 0, 0)) := by
  simp only [ref34_Take.l15]
  rw [bb_pos (by rfl), dd_pos (by decide), opt_some (x := w10) (by rfl), dd_neg (by decide), dd_pos (by rfl), dd_neg (by decide), dd_neg (by decide), dd_neg (by decide), dd_neg (by decide), dd_neg (by decide), dd_pos (by rfl), Tw.run_ret]
  rfl
 have g3 : (ref34_Take.l15 [w0, w1, w2, w3, w4, w5, w6, w7, w8, w9, w10, w11, w12, w13, w14, w15, w16, w17, w18, w19, w20, w21, w22, w23, w24, w25] 0 6 s0.m s0.a s0.l s0.f s0.t s0.c0.x0 s0.c0.x1 s0.c0.x2 s0.c0.x3 s0.c0.x4 s0.c0.x5 s0.c0.x6 s0.c0.x7 s0.c0.x8 s0.c0.x9 s0.c0.x10 s0.c1.x0 s0.c1.x1 s0.c1.x2 s0.c1.x3 s0.c1.x4 s0.c1.x5 s0.c1.x6 s0.c1.x7 s0.c1.x8 s0.c1.x9 s0.c1.x10 s0.r s0.g s0.r2 s0.g2 b0 b1 b2 bf b4 b5 b6 b7 b16 b17 b18 b27 b28 b29 b30 3 w8 w9 w10 0 0 0 0 0 0 0 0 0 0 0 0 0).run = some (.inl (4, w8, w9, w10, w11, 0, 0, 0, 0, 0, 0, 0, 0, 0, 0, 0, 0)) := by
  simp only [ref34_Take.l15]
  rw [bb_pos (by rfl), dd_pos (by decide), opt_some (x := w11) (by rfl), dd_neg (by decide), dd_pos (by rfl), dd_neg (by decide), dd_neg (by decide), dd_neg (by decide), dd_neg (by decide), dd_pos (by rfl), Tw.run_ret]
  rfl
 have g4 : (ref34_Take.l15 [w0, w1, w2, w3, w4, w5, w6, w7, w8, w9, w10, w11, w12, w13, w14, w15, w16, w17, w18, w19, w20, w21, w22, w23, w24, w25] 0 6 s0.m s0.a s0.l s0.f s0.t s0.c0.x0 s0.c0.x1 s0.c0.x2 s0.c0.x3 s0.c0.x4 s0.c0.x5 s0.c0.x6 s0.c0.x7 s0.c0.x8 s0.c0.x9 s0.c0.x10 s0.c1.x0 s0.c1.x1 s0.c1.x2 s0.c1.x3 s0.c1.x4 s0.c1.x5 s0.c1.x6 s0.c1.x7 s0.c1.x8 s0.c1.x9 s0.c1.x10 s0.r s0.g s0.r2 s0.g2 b0 b1 b2 bf b4 b5 b6 b7 b16 b17 b18 b27 b28 b29 b30 4 w8 w9 w10 w11 0 0 0 0 0 0 0 0 0 0 0 0).run = some (.inl (5, w8, w9, w10, w11, w12, 0, 0, 0, 0, 0, 0, 0, 0, 0, 0, 0)) := by
  simp only [ref34_Take.l15]
  rw [bb_pos (by rfl), dd_pos (by decide), opt_some (x := w12) (by rfl), dd_neg (by decide), dd_pos (by rfl), dd_neg (by decide), dd_neg (by decide), dd_neg (by decide), dd_pos (by rfl), Tw.run_ret]
  rfl
 have g5 : (ref34_Take.l15 [w0, w1, w2, w3, w4, w5, w6, w7, w8, w9, w10, w11, w12, w13, w14, w15, w16, w17, w18, w19, w20, w21, w22, w23, w24, w25] 0 6 s0.m s0.a s0.l s0.f s0.t s0.c0.x0 s0.c0.x1 s0.c0.x2 s0.c0.x3 s0.c0.x4 s0.c0.x5 s0.c0.x6 s0.c0.x7 s0.c0.x8 s0.c0.x9 s0.c0.x10 s0.c1.x0 s0.c1.x1 s0.c1.x2 s0.c1.x3 s0.c1.x4 s0.c1.x5 s0.c1.x6 s0.c1.x7 s0.c1.x8 s0.c1.x9 s0.c1.x10 s0.r s0.g s0.r2 s0.g2 b0 b1 b2 bf b4 b5 b6 b7 b16 b17 b18 b27 b28 b29 b30 5 w8 w9 w10 w11 w12 0 0 0 0 0 0 0 0 0 0 0).run = some (.inl (6, w8, w9, w10, w11, w12, w13, 0, 0, 0, 0, 0, 0, 0, 0, 0, 0)) := by
  simp only [ref34_Take.l15]
  rw [bb_pos (by rfl), dd_pos (by decide), opt_some (x := w13) (by rfl), dd_neg (by decide), dd_pos (by rfl), dd_neg (by decide), dd_neg (by decide), dd_pos (by rfl), Tw.run_ret]
  rfl
 have g6 : (ref34_Take.l15 [w0, w1, w2, w3, w4, w5, w6, w7, w8, w9, w10, w11, w12, w13, w14, w15, w16, w17, w18, w19, w20, w21, w22, w23, w24, w25] 0 6 s0.m s0.a s0.l s0.f s0.t s0.c0.x0 s0.c0.x1 s0.c0.x2 s0.c0.x3 s0.c0.x4 s0.c0.x5 s0.c0.x6 s0.c0.x7 s0.c0.x8 s0.c0.x9 s0.c0.x10 s0.c1.x0 s0.c1.x1 s0.c1.x2 s0.c1.x3 s0.c1.x4 s0.c1.x5 s0.c1.x6 s0.c1.x7 s0.c1.x8 s0.c1.x9 s0.c1.x10 s0.r s0.g s0.r2 s0.g2 b0 b1 b2 bf b4 b5 b6 b7 b16 b17 b18 b27 b28 b29 b30 6 w8 w9 w10 w11 w12 w13 0 0 0 0 0 0 0 0 0 0).run = some (.inl (7, w8, w9, w10, w11, w12, w13, w14, 0, 0, 0, 0, 0, 0, 0, 0, 0)) := by
  simp only [ref34_Take.l15]
  rw [bb_pos (by rfl), dd_pos (by decide), opt_some (x := w14) (by rfl), dd_neg (by decide), dd_pos (by rfl), dd_neg (by decide), dd_pos (by rfl), Tw.run_ret]
  rfl
 have g7 : (ref34_Take.l15 [w0, w1, w2, w3, w4, w5, w6, w7, w8, w9, w10, w11, w12, w13, w14, w15, w16, w17, w18, w19, w20, w21, w22, w23, w24, w25] 0 6 s0.m s0.a s0.l s0.f s0.t s0.c0.x0 s0.c0.x1 s0.c0.x2 s0.c0.x3 s0.c0.x4 s0.c0.x5 s0.c0.x6 s0.c0.x7 s0.c0.x8 s0.c0.x9 s0.c0.x10 s0.c1.x0 s0.c1.x1 s0.c1.x2 s0.c1.x3 s0.c1.x4 s0.c1.x5 s0.c1.x6 s0.c1.x7 s0.c1.x8 s0.c1.x9 s0.c1.x10 s0.r s0.g s0.r2 s0.g2 b0 b1 b2 bf b4 b5 b6 b7 b16 b17 b18 b27 b28 b29 b30 7 w8 w9 w10 w11 w12 w13 w14 0 0 0 0 0 0 0 0 0).run = some (.inl (8, w8, w9, w10, w11, w12, w13, w14, w15, 0, 0, 0, 0, 0, 0, 0, 0)) := by
  simp only [ref34_Take.l15]
  rw [bb_pos (by rfl), dd_pos (by decide), opt_some (x := w15) (by rfl), dd_neg (by decide), dd_pos (by rfl), dd_pos (by rfl), Tw.run_ret]
  rfl
 have g8 : (ref34_Take.l15 [w0, w1, w2, w3, w4, w5, w6, w7, w8, w9, w10, w11, w12, w13, w14, w15, w16, w17, w18, w19, w20, w21, w22, w23, w24, w25] 0 6 s0.m s0.a s0.l s0.f s0.t s0.c0.x0 s0.c0.x1 s0.c0.x2 s0.c0.x3 s0.c0.x4 s0.c0.x5 s0.c0.x6 s0.c0.x7 s0.c0.x8 s0.c0.x9 s0.c0.x10 s0.c1.x0 s0.c1.x1 s0.c1.x2 s0.c1.x3 s0.c1.x4 s0.c1.x5 s0.c1.x6 s0.c1.x7 s0.c1.x8 s0.c1.x9 s0.c1.x10 s0.r s0.g s0.r2 s0.g2 b0 b1 b2 bf b4 b5 b6 b7 b16 b17 b18 b27 b28 b29 b30 8 w8 w9 w10 w11 w12 w13 w14 w15 0 0 0 0 0 0 0 0).run = some (.inr (w8, w9, w10, w11, w12, w13, w14, w15, 0, 0, 0, 0, 0, 0, 0, 0)) := by
  simp only [ref34_Take.l15]
  rw [bb_neg (by rfl), Tw.run_ret]
 exact (Lp_next g0).trans ((Lp_next g1).trans ((Lp_next g2).trans ((Lp_next g3).trans ((Lp_next g4).trans ((Lp_next g5).trans ((Lp_next g6).trans ((Lp_next g7).trans (Lp_end g8))))))))
omit q0 q1 q2 q3 q4 q5 q6 q7 q8 q9 q10 q11 q12 q13 q14 q15 q16 q17 q18 q19 q20 q21 q22 q23 q24 q25 in
theorem ref34_L15_1 (s0 : SA) (b0 b1 b2 : Int) (bf : Bool) (b4 b5 b6 b7 b16 b17 b18 b27 b28 b29 b30 : Int) : ref34_Take.L15 [w0, w1, w2, w3, w4, w5, w6, w7, w8, w9, w10, w11, w12, w13, w14, w15, w16, w17, w18, w19, w20, w21, w22, w23, w24, w25] 1 16 0 s0.m s0.a s0.l s0.f s0.t s0.c0.x0 s0.c0.x1 s0.c0.x2 s0.c0.x3 s0.c0.x4 s0.c0.x5 s0.c0.x6 s0.c0.x7 s0.c0.x8 s0.c0.x9 s0.c0.x10 s0.c1.x0 s0.c1.x1 s0.c1.x2 s0.c1.x3 s0.c1.x4 s0.c1.x5 s0.c1.x6 s0.c1.x7 s0.c1.x8 s0.c1.x9 s0.c1.x10 s0.r s0.g s0.r2 s0.g2 b0 b1 b2 bf b4 b5 b6 b7 w8 w9 w10 w11 w12 w13 w14 w15 b16 b17 b18 0 0 0 0 0 0 0 0 b27 b28 b29 b30 = some (w8, w9, w10, w11, w12, w13, w14, w15, w18, w19, w20, w21, w22, w23, w24, w25) := by
 unfold ref34_Take.L15
 have g0 : (ref34_Take.l15 [w0, w1, w2, w3, w4, w5, w6, w7, w8, w9, w10, w11, w12, w13, w14, w15, w16, w17, w18, w19, w20, w21, w22, w23, w24, w25] 1 16 s0.m s0.a s0.l s0.f s0.t s0.c0.x0 s0.c0.x1 s0.c0.x2 s0.c0.x3 s0.c0.x4 s0.c0.x5 s0.c0.x6 s0.c0.x7 s0.c0.x8 s0.c0.x9 s0.c0.x10 s0.c1.x0 s0.c1.x1 s0.c1.x2 s0.c1.x3 s0.c1.x4 s0.c1.x5 s0.c1.x6 s0.c1.x7 s0.c1.x8 s0.c1.x9 s0.c1.x10 s0.r s0.g s0.r2 s0.g2 b0 b1 b2 bf b4 b5 b6 b7 b16 b17 b18 b27 b28 b29 b30 0 w8 w9 w10 w11 w12 w13 w14 w15 0 0 0 0 0 0 0 0).run = some (.inl (1, w8, w9, w10, w11, w12, w13, w14, w15, w18, 0, 0, 0, 0, 0, 0, 0)) := by
  simp only [ref34_Take.l15]
  rw [bb_pos (by rfl), dd_pos (by decide), opt_some (x := w18) (by rfl), dd_pos (by rfl), dd_neg (by decide), dd_neg (by decide), dd_neg (by decide), dd_neg (by decide), dd_neg (by decide), dd_neg (by decide), dd_neg (by decide), dd_pos (by rfl), Tw.run_ret]
  rfl
 have g1 : (ref34_Take.l15 [w0, w1, w2, w3, w4, w5, w6, w7, w8, w9, w10, w11, w12, w13, w14, w15, w16, w17, w18, w19, w20, w21, w22, w23, w24, w25] 1 16 s0.m s0.a s0.l s0.f s0.t s0.c0.x0 s0.c0.x1 s0.c0.x2 s0.c0.x3 s0.c0.x4 s0.c0.x5 s0.c0.x6 s0.c0.x7 s0.c0.x8 s0.c0.x9 s0.c0.x10 s0.c1.x0 s0.c1.x1 s0.c1.x2 s0.c1.x3 s0.c1.x4 s0.c1.x5 s0.c1.x6 s0.c1.x7 s0.c1.x8 s0.c1.x9 s0.c1.x10 s0.r s0.g s0.r2 s0.g2 b0 b1 b2 bf b4 b5 b6 b7 b16 b17 b18 b27 b28 b29 b30 1 w8 w9 w10 w11 w12 w13 w14 w15 w18 0 0 0 0 0 0 0).run = some (.inl (2, w8, w9, w10, w11, w12, w13, w14, w15, w18, w19, 0, 0, 0, 0, 0, 0)) := by
  simp only [ref34_Take.l15]
  rw [bb_pos (by rfl), dd_pos (by decide), opt_some (x := w19) (by rfl), dd_pos (by rfl), dd_neg (by decide), dd_neg (by decide), dd_neg (by decide), dd_neg (by decide), dd_neg (by decide), dd_neg (by decide), dd_pos (by rfl), Tw.run_ret]
  rfl
 have g2 : (ref34_Take.l15 [w0, w1, w2, w3, w4, w5, w6, w7, w8, w9, w10, w11, w12, w13, w14, w15, w16, w17, w18, w19, w20, w21, w22, w23, w24, w25] 1 16 s0.m s0.a s0.l s0.f s0.t s0.c0.x0 s0.c0.x1 s0.c0.x2 s0.c0.x3 s0.c0.x4 s0.c0.x5 s0.c0.x6 s0.c0.x7 s0.c0.x8 s0.c0.x9 s0.c0.x10 s0.c1.x0 s0.c1.x1 s0.c1.x2 s0.c1.x3 s0.c1.x4 s0.c1.x5 s0.c1.x6 s0.c1.x7 s0.c1.x8 s0.c1.x9 s0.c1.x10 s0.r s0.g s0.r2 s0.g2 b0 b1 b2 bf b4 b5 b6 b7 b16 b17 b18 b27 b28 b29 b30 2 w8 w9 w10 w11 w12 w13 w14 w15 w18 w19 0 0 0 0 0 0).run = some (.inl (3, w8, w9, w10, w11, w12, w13, w14, w15, w18, w19, w20, 0, 0, 0, 0, 0)) := by
  simp only [ref34_Take.l15]
  rw [bb_pos (by rfl), dd_pos (by decide), opt_some (x := w20) (by rfl), dd_pos (by rfl), dd_neg (by decide), dd_neg (by decide), dd_neg (by decide), dd_neg (by decide), dd_neg (by decide), dd_pos (by rfl), Tw.run_ret]
  rfl
 have g3 : (ref34_Take.l15 [w0, w1, w2, w3, w4, w5, w6, w7, w8, w9, w10, w11, w12, w13, w14, w15, w16, w17, w18, w19, w20, w21, w22, w23, w24, w25] 1 16 s0.m s0.a s0.l s0.f s0.t s0.c0.x0 s0.c0.x1 s0.c0.x2 s0.c0.x3 s0.c0.x4 s0.c0.x5 s0.c0.x6 s0.c0.x7 s0.c0.x8 s0.c0.x9 s0.c0.x10 s0.c1.x0 s0.c1.x1 s0.c1.x2 s0.c1.x3 s0.c1.x4 s0.c1.x5 s0.c1.x6 s0.c1.x7 s0.c1.x8 s0.c1.x9 s0.c1.x10 s0.r s0.g s0.r2 s0.g2 b0 b1 b2 bf b4 b5 b6 b7 b16 b17 b18 b27 b28 b29 b30 3 w8 w9 w10 w11 w12 w13 w14 w15 w18 w19 w20 0 0 0 0 0).run = some (.inl (4, w8, w9, w10, w11, w12, w13, w14, w15, w18, w19, w20, w21, 0, 0, 0, 0)) := by
  simp only [ref34_Take.l15]
  rw [bb_pos (by rfl), dd_pos (by decide), opt_some (x := w21) (by rfl), dd_pos (by rfl), dd_neg (by decide), dd_neg (by decide), dd_neg (by decide), dd_neg (by decide), dd_pos (by rfl), Tw.run_ret]
  rfl
 have g4 : (ref34_Take.l15 [w0, w1, w2, w3, w4, w5, w6, w7, w8, w9, w10, w11, w12, w13, w14, w15, w16, w17, w18, w19, w20, w21, w22, w23, w24, w25] 1 16 s0.m s0.a s0.l s0.f s0.t s0.c0.x0 s0.c0.x1 s0.c0.x2 s0.c0.x3 s0.c0.x4 s0.c0.x5 s0.c0.x6 s0.c0.x7 s0.c0.x8 s0.c0.x9 s0.c0.x10 s0.c1.x0 s0.c1.x1 s0.c1.x2 s0.c1.x3 s0.c1.x4 s0.c1.x5 s0.c1.x6 s0.c1.x7 s0.c1.x8 s0.c1.x9 s0.c1.x10 s0.r s0.g s0.r2 s0.g2 b0 b1 b2 bf b4 b5 b6 b7 b16 b17 b18 b27 b28 b29 b30 4 w8 w9 w10 w11 w12 w13 w14 w15 w18 w19 w20 w21 0 0 0 0).run = some (.inl (5, w8, w9, w10, w11, w12, w13, w14, w15, w18, w19, w20, w21, w22, 0, 0, 0)) := by
  simp only [ref34_Take.l15]
  rw [bb_pos (by rfl), dd_pos (by decide), opt_some (x := w22) (by rfl), dd_pos (by rfl), dd_neg (by decide), dd_neg (by decide), dd_neg (by decide), dd_pos (by rfl), Tw.run_ret]
  rfl
 have g5 : (ref34_Take.l15 [w0, w1, w2, w3, w4, w5, w6, w7, w8, w9, w10, w11, w12, w13, w14, w15, w16, w17, w18, w19, w20, w21, w22, w23, w24, w25] 1 16 s0.m s0.a s0.l s0.f s0.t s0.c0.x0 s0.c0.x1 s0.c0.x2 s0.c0.x3 s0.c0.x4 s0.c0.x5 s0.c0.x6 s0.c0.x7 s0.c0.x8 s0.c0.x9 s0.c0.x10 s0.c1.x0 s0.c1.x1 s0.c1.x2 s0.c1.x3 s0.c1.x4 s0.c1.x5 s0.c1.x6 s0.c1.x7 s0.c1.x8 s0.c1.x9 s0.c1.x10 s0.r s0.g s0.r2 s0.g2 b0 b1 b2 bf b4 b5 b6 b7 b16 b17 b18 b27 b28 b29 b30 5 w8 w9 w10 w11 w12 w13 w14 w15 w18 w19 w20 w21 w22 0 0 0).run = some (.inl (6, w8, w9, w10, w11, w12, w13, w14, w15, w18, w19, w20, w21, w22, w23, 0, 0)) := by
  simp only [ref34_Take.l15]
  rw [bb_pos (by rfl), dd_pos (by decide), opt_some (x := w23) (by rfl), dd_pos (by rfl), dd_neg (by decide), dd_neg (by decide), dd_pos (by rfl), Tw.run_ret]
  rfl
 have g6 : (ref34_Take.l15 [w0, w1, w2, w3, w4, w5, w6, w7, w8, w9, w10, w11, w12, w13, w14, w15, w16, w17, w18, w19, w20, w21, w22, w23, w24, w25] 1 16 s0.m s0.a s0.l s0.f s0.t s0.c0.x0 s0.c0.x1 s0.c0.x2 s0.c0.x3 s0.c0.x4 s0.c0.x5 s0.c0.x6 s0.c0.x7 s0.c0.x8 s0.c0.x9 s0.c0.x10 s0.c1.x0 s0.c1.x1 s0.c1.x2 s0.c1.x3 s0.c1.x4 s0.c1.x5 s0.c1.x6 s0.c1.x7 s0.c1.x8 s0.c1.x9 s0.c1.x10 s0.r s0.g s0.r2 s0.g2 b0 b1 b2 bf b4 b5 b6 b7 b16 b17 b18 b27 b28 b29 b30 6 w8 w9 w10 w11 w12 w13 w14 w15 w18 w19 w20 w21 w22 w23 0 0).run = some (.inl (7, w8, w9, w10, w11, w12, w13, w14, w15, w18, w19, w20, w21, w22, w23, w24, 0)) := by
  simp only [ref34_Take.l15]
  rw [bb_pos (by rfl), dd_pos (by decide), opt_some (x := w24) (by rfl), dd_pos (by rfl), dd_neg (by decide), dd_pos (by rfl), Tw.run_ret]
  rfl
 have g7 : (ref34_Take.l15 [w0, w1, w2, w3, w4, w5, w6, w7, w8, w9, w10, w11, w12, w13, w14, w15, w16, w17, w18, w19, w20, w21, w22, w23, w24, w25] 1 16 s0.m s0.a s0.l s0.f s0.t s0.c0.x0 s0.c0.x1 s0.c0.x2 s0.c0.x3 s0.c0.x4 s0.c0.x5 s0.c0.x6 s0.c0.x7 s0.c0.x8 s0.c0.x9 s0.c0.x10 s0.c1.x0 s0.c1.x1 s0.c1.x2 s0.c1.x3 s0.c1.x4 s0.c1.x5 s0.c1.x6 s0.c1.x7 s0.c1.x8 s0.c1.x9 s0.c1.x10 s0.r s0.g s0.r2 s0.g2 b0 b1 b2 bf b4 b5 b6 b7 b16 b17 b18 b27 b28 b29 b30 7 w8 w9 w10 w11 w12 w13 w14 w15 w18 w19 w20 w21 w22 w23 w24 0).run = some (.inl (8, w8, w9, w10, w11, w12, w13, w14, w15, w18, w19, w20, w21, w22, w23, w24, w25)) := by
  simp only [ref34_Take.l15]
  rw [bb_pos (by rfl), dd_pos (by decide), opt_some (x := w25) (by rfl), dd_pos (by rfl), dd_pos (by rfl), Tw.run_ret]
  rfl
 have g8 : (ref34_Take.l15 [w0, w1, w2, w3, w4, w5, w6, w7, w8, w9, w10, w11, w12, w13, w14, w15, w16, w17, w18, w19, w20, w21, w22, w23, w24, w25] 1 16 s0.m s0.a s0.l s0.f s0.t s0.c0.x0 s0.c0.x1 s0.c0.x2 s0.c0.x3 s0.c0.x4 s0.c0.x5 s0.c0.x6 s0.c0.x7 s0.c0.x8 s0.c0.x9 s0.c0.x10 s0.c1.x0 s0.c1.x1 s0.c1.x2 s0.c1.x3 s0.c1.x4 s0.c1.x5 s0.c1.x6 s0.c1.x7 s0.c1.x8 s0.c1.x9 s0.c1.x10 s0.r s0.g s0.r2 s0.g2 b0 b1 b2 bf b4 b5 b6 b7 b16 b17 b18 b27 b28 b29 b30 8 w8 w9 w10 w11 w12 w13 w14 w15 w18 w19 w20 w21 w22 w23 w24 w25).run = some (.inr (w8, w9, w10, w11, w12, w13, w14, w15, w18, w19, w20, w21, w22, w23, w24, w25)) := by
  simp only [ref34_Take.l15]
  rw [bb_neg (by rfl), Tw.run_ret]
 exact (Lp_next g0).trans ((Lp_next g1).trans ((Lp_next g2).trans ((Lp_next g3).trans ((Lp_next g4).trans ((Lp_next g5).trans ((Lp_next g6).trans ((Lp_next g7).trans (Lp_end g8))))))))
omit q0 q1 q2 q3 q4 q5 q8 q9 q10 q11 q12 q13 q14 q15 q18 q19 q20 q21 q22 q23 q24 q25 in
theorem ref34_L10_eq (s0 : SA) (b0 b1 b2 : Int) (bf : Bool) (b4 b27 b28 b29 b30 : Int) : ref34_Take.L10 [w0, w1, w2, w3, w4, w5, w6, w7, w8, w9, w10, w11, w12, w13, w14, w15, w16, w17, w18, w19, w20, w21, w22, w23, w24, w25] 0 s0.m s0.a s0.l s0.f s0.t s0.c0.x0 s0.c0.x1 s0.c0.x2 s0.c0.x3 s0.c0.x4 s0.c0.x5 s0.c0.x6 s0.c0.x7 s0.c0.x8 s0.c0.x9 s0.c0.x10 s0.c1.x0 s0.c1.x1 s0.c1.x2 s0.c1.x3 s0.c1.x4 s0.c1.x5 s0.c1.x6 s0.c1.x7 s0.c1.x8 s0.c1.x9 s0.c1.x10 s0.r s0.g s0.r2 s0.g2 b0 b1 b2 bf b4 0 0 0 0 0 0 0 0 0 0 0 0 0 0 0 0 0 0 0 0 0 0 b27 b28 b29 b30 = some (w6 % 65536, w6 / 65536, w7, w8, w9, w10, w11, w12, w13, w14, w15, w16 % 65536, w16 / 65536, w17, w18, w19, w20, w21, w22, w23, w24, w25) := by
 have v6 := q6.u32; have v7 := q7.u32; have v16 := q16.u32; have v17 := q17.u32
 have m6 : w64 (Int.tmod w6 65536) = w6 % 65536 := by rw [show (65536 : Int) = ((65536 : Nat) : Int) from rfl, tmod_of v6.1, w64_of (by omega) (by omega)]
 have d6 : w64 (w32 (Int.tdiv w6 65536)) = w6 / 65536 := by rw [show (65536 : Int) = ((65536 : Nat) : Int) from rfl, tdiv_of v6.1, w32_of (by omega) (by omega), w64_of (by omega) (by omega)]
 have t6 : w64 w7 = w7 := w64_of (by omega) (by omega)
 have m16 : w64 (Int.tmod w16 65536) = w16 % 65536 := by rw [show (65536 : Int) = ((65536 : Nat) : Int) from rfl, tmod_of v16.1, w64_of (by omega) (by omega)]
 have d16 : w64 (w32 (Int.tdiv w16 65536)) = w16 / 65536 := by rw [show (65536 : Int) = ((65536 : Nat) : Int) from rfl, tdiv_of v16.1, w32_of (by omega) (by omega), w64_of (by omega) (by omega)]
 have t16 : w64 w17 = w17 := w64_of (by omega) (by omega)
 unfold ref34_Take.L10
 have s1 : (ref34_Take.l10 [w0, w1, w2, w3, w4, w5, w6, w7, w8, w9, w10, w11, w12, w13, w14, w15, w16, w17, w18, w19, w20, w21, w22, w23, w24, w25] s0.m s0.a s0.l s0.f s0.t s0.c0.x0 s0.c0.x1 s0.c0.x2 s0.c0.x3 s0.c0.x4 s0.c0.x5 s0.c0.x6 s0.c0.x7 s0.c0.x8 s0.c0.x9 s0.c0.x10 s0.c1.x0 s0.c1.x1 s0.c1.x2 s0.c1.x3 s0.c1.x4 s0.c1.x5 s0.c1.x6 s0.c1.x7 s0.c1.x8 s0.c1.x9 s0.c1.x10 s0.r s0.g s0.r2 s0.g2 b0 b1 b2 bf b4 b27 b28 b29 b30 0 0 0 0 0 0 0 0 0 0 0 0 0 0 0 0 0 0 0 0 0 0 0 ).run = some (.inl (1, w6 % 65536, w6 / 65536, w7, w8, w9, w10, w11, w12, w13, w14, w15, 0, 0, 0, 0, 0, 0, 0, 0, 0, 0, 0)) := by
  simp only [ref34_Take.l10]
  rw [bb_pos (by rfl), dd_pos (by decide), opt_some (x := w6) (by rfl), dd_pos (by decide), opt_some (x := w6) (by rfl), dd_pos (by decide), opt_some (x := w7) (by rfl), dd_neg (by decide), dd_pos (by rfl), m6, d6, t6, opt_some (x := (w8, w9, w10, w11, w12, w13, w14, w15, 0, 0, 0, 0, 0, 0, 0, 0)) (by exact ref34_L15_0 s0 b0 b1 b2 bf b4 (w6 % 65536) (w6 / 65536) w7 0 0 0 b27 b28 b29 b30), Tw.run_ret]
  rfl
 have s2 : (ref34_Take.l10 [w0, w1, w2, w3, w4, w5, w6, w7, w8, w9, w10, w11, w12, w13, w14, w15, w16, w17, w18, w19, w20, w21, w22, w23, w24, w25] s0.m s0.a s0.l s0.f s0.t s0.c0.x0 s0.c0.x1 s0.c0.x2 s0.c0.x3 s0.c0.x4 s0.c0.x5 s0.c0.x6 s0.c0.x7 s0.c0.x8 s0.c0.x9 s0.c0.x10 s0.c1.x0 s0.c1.x1 s0.c1.x2 s0.c1.x3 s0.c1.x4 s0.c1.x5 s0.c1.x6 s0.c1.x7 s0.c1.x8 s0.c1.x9 s0.c1.x10 s0.r s0.g s0.r2 s0.g2 b0 b1 b2 bf b4 b27 b28 b29 b30 1 (w6 % 65536) (w6 / 65536) w7 w8 w9 w10 w11 w12 w13 w14 w15 0 0 0 0 0 0 0 0 0 0 0 ).run = some (.inl (2, w6 % 65536, w6 / 65536, w7, w8, w9, w10, w11, w12, w13, w14, w15, w16 % 65536, w16 / 65536, w17, w18, w19, w20, w21, w22, w23, w24, w25)) := by
  simp only [ref34_Take.l10]
  rw [bb_pos (by rfl), dd_pos (by decide), opt_some (x := w16) (by rfl), dd_pos (by decide), opt_some (x := w16) (by rfl), dd_pos (by decide), opt_some (x := w17) (by rfl), dd_pos (by rfl), m16, d16, t16, opt_some (x := (w8, w9, w10, w11, w12, w13, w14, w15, w18, w19, w20, w21, w22, w23, w24, w25)) (by exact ref34_L15_1 s0 b0 b1 b2 bf b4 (w6 % 65536) (w6 / 65536) w7 (w16 % 65536) (w16 / 65536) w17 b27 b28 b29 b30), Tw.run_ret]
  rfl
 have s3 : (ref34_Take.l10 [w0, w1, w2, w3, w4, w5, w6, w7, w8, w9, w10, w11, w12, w13, w14, w15, w16, w17, w18, w19, w20, w21, w22, w23, w24, w25] s0.m s0.a s0.l s0.f s0.t s0.c0.x0 s0.c0.x1 s0.c0.x2 s0.c0.x3 s0.c0.x4 s0.c0.x5 s0.c0.x6 s0.c0.x7 s0.c0.x8 s0.c0.x9 s0.c0.x10 s0.c1.x0 s0.c1.x1 s0.c1.x2 s0.c1.x3 s0.c1.x4 s0.c1.x5 s0.c1.x6 s0.c1.x7 s0.c1.x8 s0.c1.x9 s0.c1.x10 s0.r s0.g s0.r2 s0.g2 b0 b1 b2 bf b4 b27 b28 b29 b30 2 (w6 % 65536) (w6 / 65536) w7 w8 w9 w10 w11 w12 w13 w14 w15 (w16 % 65536) (w16 / 65536) w17 w18 w19 w20 w21 w22 w23 w24 w25).run = some (.inr (w6 % 65536, w6 / 65536, w7, w8, w9, w10, w11, w12, w13, w14, w15, w16 % 65536, w16 / 65536, w17, w18, w19, w20, w21, w22, w23, w24, w25)) := by
  simp only [ref34_Take.l10]
  rw [bb_neg (by rfl), Tw.run_ret]
 exact (Lp_next s1).trans ((Lp_next s2).trans (Lp_end s3))
omit q8 q9 q10 q11 q12 q13 q14 q15 q18 q19 q20 q21 q22 q23 q24 q25 in
theorem ref34_Take_26 : ref34_Take.c [w0, w1, w2, w3, w4, w5, w6, w7, w8, w9, w10, w11, w12, w13, w14, w15, w16, w17, w18, w19, w20, w21, w22, w23, w24, w25] = some (if w0 < 33554432 ∧ RightS (decB (decide (w0 ≥ 16777216)) w0 w1 w2 w3 w4 w5 w6 w7 w8 w9 w10 w11 w12 w13 w14 w15 w16 w17 w18 w19 w20 w21 w22 w23 w24 w25) then (decB (decide (w0 ≥ 16777216)) w0 w1 w2 w3 w4 w5 w6 w7 w8 w9 w10 w11 w12 w13 w14 w15 w16 w17 w18 w19 w20 w21 w22 w23 w24 w25).out 0 else sa0.out 4) := by
 have v0 := q0.u32; have v1 := q1.u32; have v2 := q2.u32; have v3 := q3.u32; have v4 := q4.u32; have v5 := q5.u32
 simp only [ref34_Take.c, ref34_Take.t]
 rw [bb_neg (by rfl), opt_some (x := w0) (by rfl)]
 by_cases h : w0 ≥ 33554432
 ·rw [bb_pos (decide_eq_true h), Tw.run_ret, if_neg (by omega)]
  rfl
 have e0 : w64 (Int.tmod w0 256) = w0 % 256 := by rw [show (256 : Int) = ((256 : Nat) : Int) from rfl, tmod_of v0.1, w64_of (by omega) (by omega)]
 have e1 : w64 (Int.tmod (w32 (Int.tdiv w0 256)) 256) = w0 / 256 % 256 := by rw [show (256 : Int) = ((256 : Nat) : Int) from rfl, tdiv_of v0.1, w32_of (by omega) (by omega), tmod_of (by omega), w64_of (by omega) (by omega)]
 have e2 : w64 (Int.tmod (w32 (Int.tdiv w0 65536)) 256) = w0 / 65536 % 256 := by rw [show (65536 : Int) = ((65536 : Nat) : Int) from rfl, show (256 : Int) = ((256 : Nat) : Int) from rfl, tdiv_of v0.1, w32_of (by omega) (by omega), tmod_of (by omega), w64_of (by omega) (by omega)]
 have f1 : w64 w1 = w1 := w64_of (by omega) (by omega)
 have f2 : w64 w2 = w2 := w64_of (by omega) (by omega)
 have f3 : w64 w3 = w3 := w64_of (by omega) (by omega)
 have f4 : w64 (w64 w4 - 1) = w4 - 1 := by rw [w64_of (n := w4) (by omega) (by omega), w64_of (by omega) (by omega)]
 have f5 : w64 w5 = w5 := w64_of (by omega) (by omega)
 rw [bb_neg (decide_eq_false h), opt_some (x := w0) (by rfl), opt_some (x := w0) (by rfl), opt_some (x := w0) (by rfl), opt_some (x := w0) (by rfl), opt_some (x := w1) (by rfl), opt_some (x := w2) (by rfl), opt_some (x := w3) (by rfl), opt_some (x := w4) (by rfl), opt_some (x := w5) (by rfl), e0, e1, e2, f1, f2, f3, f4, f5,
  opt_some (x := (w6 % 65536, w6 / 65536, w7, w8, w9, w10, w11, w12, w13, w14, w15, w16 % 65536, w16 / 65536, w17, w18, w19, w20, w21, w22, w23, w24, w25)) (by exact ref34_L10_eq q6 q7 q16 q17 sa0 ..), opt_some (x := decide (RightS (decB (decide (w0 ≥ 16777216)) w0 w1 w2 w3 w4 w5 w6 w7 w8 w9 w10 w11 w12 w13 w14 w15 w16 w17 w18 w19 w20 w21 w22 w23 w24 w25))) (by exact ref34_Right_eq (decB (decide (w0 ≥ 16777216)) w0 w1 w2 w3 w4 w5 w6 w7 w8 w9 w10 w11 w12 w13 w14 w15 w16 w17 w18 w19 w20 w21 w22 w23 w24 w25))]
 by_cases hr : RightS (decB (decide (w0 ≥ 16777216)) w0 w1 w2 w3 w4 w5 w6 w7 w8 w9 w10 w11 w12 w13 w14 w15 w16 w17 w18 w19 w20 w21 w22 w23 w24 w25)
 ·rw [decide_eq_true hr, bb_neg (by rfl), Tw.run_ret, if_pos ⟨by omega, hr⟩]; rfl
 ·rw [decide_eq_false hr, bb_pos (by rfl), Tw.run_ret, if_neg (fun g => hr g.2)]; rfl
omit q7 q8 q9 q10 q11 q12 q13 q14 q15 q17 q18 q19 q20 q21 q22 q23 q24 q25 in
theorem lay_decB (h : w0 < 33554432) : layB (decB (decide (w0 ≥ 16777216)) w0 w1 w2 w3 w4 w5 w6 w7 w8 w9 w10 w11 w12 w13 w14 w15 w16 w17 w18 w19 w20 w21 w22 w23 w24 w25) = [w0, w1, w2, w3, w4, w5, w6, w7, w8, w9, w10, w11, w12, w13, w14, w15, w16, w17, w18, w19, w20, w21, w22, w23, w24, w25] := by
 have v0 := q0.u32; have v1 := q1.u32; have v2 := q2.u32; have v3 := q3.u32; have v4 := q4.u32; have v5 := q5.u32; have v6 := q6.u32; have v16 := q16.u32
 have e0 : w0 % 256 + 256 * (w0 / 256 % 256) + 65536 * (w0 / 65536 % 256) + fallN (decide (w0 ≥ 16777216)) = w0 := by
  by_cases g : w0 ≥ 16777216
  ·rw [decide_eq_true g]; show _ + 16777216 = w0; omega
  ·rw [decide_eq_false g]; show _ + 0 = w0; omega
 unfold layB decB
 simp only
 rw [e0, show w6 % 65536 + 65536 * (w6 / 65536) = w6 by omega, show w16 % 65536 + 65536 * (w16 / 65536) = w16 by omega, show w4 - 1 + 1 = w4 by omega]
omit q8 q9 q10 q11 q12 q13 q14 q15 q18 q19 q20 q21 q22 q23 q24 q25 in
theorem book_Take_26 : book_Take.c [w0, w1, w2, w3, w4, w5, w6, w7, w8, w9, w10, w11, w12, w13, w14, w15, w16, w17, w18, w19, w20, w21, w22, w23, w24, w25] = some (if w0 < 33554432 ∧ RightS (decB (decide (w0 ≥ 16777216)) w0 w1 w2 w3 w4 w5 w6 w7 w8 w9 w10 w11 w12 w13 w14 w15 w16 w17 w18 w19 w20 w21 w22 w23 w24 w25) then (decB (decide (w0 ≥ 16777216)) w0 w1 w2 w3 w4 w5 w6 w7 w8 w9 w10 w11 w12 w13 w14 w15 w16 w17 w18 w19 w20 w21 w22 w23 w24 w25).out 0 else sa0.out 4) := by
 have v0 := q0.u32; have v1 := q1.u32; have v2 := q2.u32; have v3 := q3.u32; have v4 := q4.u32; have v5 := q5.u32
 simp only [book_Take.c, book_Take.t]
 have f0 : w64 w0 = w0 := w64_of (by omega) (by omega)
 have e0 : bAnd .i64 w0 255 = w0 % 256 := and255 (by omega)
 have e1 : bAnd .i64 (bShr .i64 w0 8) 255 = w0 / 256 % 256 := by rw [show (8 : Int) = ((8 : Nat) : Int) from rfl, shr64 w0 8 (by omega), and255 (by omega)]; rfl
 have e2 : bAnd .i64 (bShr .i64 w0 16) 255 = w0 / 65536 % 256 := by rw [show (16 : Int) = ((16 : Nat) : Int) from rfl, shr64 w0 16 (by omega), and255 (by omega)]; rfl
 have e3 : bShr .i64 w0 24 = w0 / 16777216 := by rw [show (24 : Int) = ((24 : Nat) : Int) from rfl, shr64 w0 24 (by omega)]; rfl
 have f1 : w64 w1 = w1 := w64_of (by omega) (by omega)
 have f2 : w64 w2 = w2 := w64_of (by omega) (by omega)
 have f3 : w64 w3 = w3 := w64_of (by omega) (by omega)
 have f4 : w64 (w64 w4 - 1) = w4 - 1 := by rw [w64_of (n := w4) (by omega) (by omega), w64_of (by omega) (by omega)]
 have f5 : w64 w5 = w5 := w64_of (by omega) (by omega)
 rw [bb_neg (by rfl), opt_some (x := w0) (by rfl), opt_some (x := w1) (by rfl), opt_some (x := w2) (by rfl), opt_some (x := w3) (by rfl), opt_some (x := w4) (by rfl), opt_some (x := w5) (by rfl), f0, e0, e1, e2, e3, f1, f2, f3, f4, f5,
  opt_some (x := (w6 % 65536, w6 / 65536, w7, w8, w9, w10, w11, w12, w13, w14, w15, w16 % 65536, w16 / 65536, w17, w18, w19, w20, w21, w22, w23, w24, w25)) (by exact book_L7_eq q6 q7 q16 q17 sa0 ..), opt_some (x := if RightS (decB (w0 / 16777216 == 1) w0 w1 w2 w3 w4 w5 w6 w7 w8 w9 w10 w11 w12 w13 w14 w15 w16 w17 w18 w19 w20 w21 w22 w23 w24 w25) then (0, layB (decB (w0 / 16777216 == 1) w0 w1 w2 w3 w4 w5 w6 w7 w8 w9 w10 w11 w12 w13 w14 w15 w16 w17 w18 w19 w20 w21 w22 w23 w24 w25)) else (2, [])) (by exact book_Lay_eq (decB (w0 / 16777216 == 1) w0 w1 w2 w3 w4 w5 w6 w7 w8 w9 w10 w11 w12 w13 w14 w15 w16 w17 w18 w19 w20 w21 w22 w23 w24 w25))]
 by_cases h : w0 < 33554432
 ·have ef : (w0 / 16777216 == 1) = decide (w0 ≥ 16777216) := by
   rw [Bool.eq_iff_iff, beq_iff_eq, decide_eq_true_iff]
   omega
  have el := lay_decB q0 q1 q2 q3 q4 q5 q6 q16 h (w7 := w7) (w17 := w17) (w8 := w8) (w9 := w9) (w10 := w10) (w11 := w11) (w12 := w12) (w13 := w13) (w14 := w14) (w15 := w15) (w18 := w18) (w19 := w19) (w20 := w20) (w21 := w21) (w22 := w22) (w23 := w23) (w24 := w24) (w25 := w25)
  rw [ef]
  by_cases hr : RightS (decB (decide (w0 ≥ 16777216)) w0 w1 w2 w3 w4 w5 w6 w7 w8 w9 w10 w11 w12 w13 w14 w15 w16 w17 w18 w19 w20 w21 w22 w23 w24 w25)
  ·rw [if_pos hr, if_pos ⟨h, hr⟩, bb_neg (by rfl), el, opt_some (equal32_eq (by exact (by decide : 26 ≤ 1000)) (by exact (by decide : 26 ≤ 1000))), bb_neg (by simp), Tw.run_ret]; rfl
  ·rw [if_neg hr, if_neg (fun g => hr g.2), bb_pos (by rfl), Tw.run_ret]; rfl
 ·rw [if_neg (c := w0 < 33554432 ∧ _) (fun g => h g.1)]
  by_cases hr : RightS (decB (w0 / 16777216 == 1) w0 w1 w2 w3 w4 w5 w6 w7 w8 w9 w10 w11 w12 w13 w14 w15 w16 w17 w18 w19 w20 w21 w22 w23 w24 w25)
  ·have hne : ¬ layB (decB (w0 / 16777216 == 1) w0 w1 w2 w3 w4 w5 w6 w7 w8 w9 w10 w11 w12 w13 w14 w15 w16 w17 w18 w19 w20 w21 w22 w23 w24 w25) = [w0, w1, w2, w3, w4, w5, w6, w7, w8, w9, w10, w11, w12, w13, w14, w15, w16, w17, w18, w19, w20, w21, w22, w23, w24, w25] := fun g => by
    have ef : (w0 / 16777216 == 1) = false := by rw [beq_eq_false_iff_ne]; omega
    have g0 := congrArg (fun l => l.getD 0 0) g
    have g1 : w0 % 256 + 256 * (w0 / 256 % 256) + 65536 * (w0 / 65536 % 256) + fallN (w0 / 16777216 == 1) = w0 := g0
    rw [ef] at g1
    have g2 : w0 % 256 + 256 * (w0 / 256 % 256) + 65536 * (w0 / 65536 % 256) + 0 = w0 := g1
    omega
   rw [if_pos hr, bb_neg (by rfl), opt_some (equal32_eq (by exact (by decide : 26 ≤ 1000)) (by exact (by decide : 26 ≤ 1000))), bb_pos (by rw [decide_eq_false (by exact hne)]; rfl), Tw.run_ret]; rfl
  ·rw [if_neg hr, bb_pos (by rfl), Tw.run_ret]; rfl
end
theorem take_both {w : List Int} (hw : Words w) : ∃ v : T32, book_Take.c w = some v ∧ ref34_Take.c w = some v := by
 by_cases h : w.length = 26
 rotate_left
 ·refine ⟨sa0.out 4, ?_, ?_⟩
  ·simp only [book_Take.c, book_Take.t]
   rw [bb_pos (by rw [bne_iff_ne]; omega), Tw.run_ret]; rfl
  ·simp only [ref34_Take.c, ref34_Take.t]
   rw [bb_pos (by rw [bne_iff_ne]; omega), Tw.run_ret]; rfl
 obtain ⟨w0, w1, w2, w3, w4, w5, w6, w7, w8, w9, w10, w11, w12, w13, w14, w15, w16, w17, w18, w19, w20, w21, w22, w23, w24, w25, rfl⟩ := len26 h
 exact ⟨_, book_Take_26 (hw w0 (by simp)) (hw w1 (by simp)) (hw w2 (by simp)) (hw w3 (by simp)) (hw w4 (by simp)) (hw w5 (by simp)) (hw w6 (by simp)) (hw w7 (by simp)) (hw w16 (by simp)) (hw w17 (by simp)), ref34_Take_26 (hw w0 (by simp)) (hw w1 (by simp)) (hw w2 (by simp)) (hw w3 (by simp)) (hw w4 (by simp)) (hw w5 (by simp)) (hw w6 (by simp)) (hw w7 (by simp)) (hw w16 (by simp)) (hw w17 (by simp))⟩
def CdW (c : Cd) : Prop := InR .u32 c.x3 ∧ InR .u32 c.x4 ∧ InR .u32 c.x5 ∧ InR .u32 c.x6 ∧ InR .u32 c.x7 ∧ InR .u32 c.x8 ∧ InR .u32 c.x9 ∧ InR .u32 c.x10
theorem layB_words {s : SA} (h : RightS s) (h0 : CdW s.c0) (h1 : CdW s.c1) : Words (layB s) := by
 have hb := bnd_of h
 have b1 := hb.m; have b2 := hb.a; have b3 := hb.l; have b4 := hb.t; have b5 := hb.r; have b6 := hb.g; have b7 := hb.r2; have b8 := hb.g2; have b9 := hb.c0; have b10 := hb.c1
 have hf : 0 ≤ fallN s.f ∧ fallN s.f ≤ 16777216 := by unfold fallN; split <;> omega
 unfold CdW at h0 h1
 unfold layB
 refine words_cons (inR_u32 (by omega)) (words_cons (inR_u32 (by omega)) (words_cons (inR_u32 (by omega)) (words_cons (inR_u32 (by omega)) (words_cons (inR_u32 (by omega)) (words_cons (inR_u32 (by omega)) (words_cons (inR_u32 (by omega)) (words_cons (inR_u32 (by omega)) (words_cons h0.1 (words_cons h0.2.1 (words_cons h0.2.2.1 (words_cons h0.2.2.2.1 (words_cons h0.2.2.2.2.1 (words_cons h0.2.2.2.2.2.1 (words_cons h0.2.2.2.2.2.2.1 (words_cons h0.2.2.2.2.2.2.2 (words_cons (inR_u32 (by omega)) (words_cons (inR_u32 (by omega)) (words_cons h1.1 (words_cons h1.2.1 (words_cons h1.2.2.1 (words_cons h1.2.2.2.1 (words_cons h1.2.2.2.2.1 (words_cons h1.2.2.2.2.2.1 (words_cons h1.2.2.2.2.2.2.1 (words_cons h1.2.2.2.2.2.2.2 (words_nil))))))))))))))))))))))))))
theorem awake34 : law34_awake.c = some true := by
 have hr : RightS (⟨0, 1, 0, false, 0, cd0, ⟨2, 3, 1, 0, 0, 0, 0, 0, 0, 0, 0⟩, 4, 5, -1, 0⟩ : SA) := by decide
 have hn : ¬ RightS sa0 := by decide
 have hl := book_Lay_eq (⟨0, 1, 0, false, 0, cd0, ⟨2, 3, 1, 0, 0, 0, 0, 0, 0, 0, 0⟩, 4, 5, -1, 0⟩ : SA)
 rw [if_pos hr] at hl
 simp only [law34_awake.c, law34_awake.t]
 rw [opt_some (x := (0, layB ⟨0, 1, 0, false, 0, cd0, ⟨2, 3, 1, 0, 0, 0, 0, 0, 0, 0, 0⟩, 4, 5, -1, 0⟩)) (by exact hl), bb_pos (by rfl), dd_pos ⟨by decide, by exact (by decide : (0 : Int) < 26)⟩, opt_some (x := 256) (by rfl), bb_pos (by rfl), dd_pos ⟨by decide, by exact (by decide : (2 : Int) < 26)⟩, opt_some (x := 4) (by rfl), bb_pos (by rfl), dd_pos ⟨by decide, by exact (by decide : (3 : Int) < 26)⟩, opt_some (x := 5) (by rfl), bb_pos (by rfl),
  dd_pos ⟨by decide, by exact (by decide : (4 : Int) < 26)⟩, opt_some (x := 0) (by rfl), bb_pos (by rfl), bb_pos (by rfl), opt_some (x := true) (by rw [← decide_eq_true hr]; exact book_Right_eq ⟨0, 1, 0, false, 0, cd0, ⟨2, 3, 1, 0, 0, 0, 0, 0, 0, 0, 0⟩, 4, 5, -1, 0⟩), bb_pos (by rfl), opt_some (x := false) (by rw [← decide_eq_false hn]; exact book_Right_eq sa0), Tw.run_ret]
 rfl
end Go.Proofs.Ytkoidgjgdhpdnaa.Pure
namespace Go.Proofs.Ytkoidgjgdhpdnaa.Pure
open Go Go.Proofs.Ytkoidgjgdhpdnaa.Va

def SA.setLeft (s : SA) (l : Int) : SA := ⟨s.m, s.a, l, s.f, s.t, s.c0, s.c1, s.r, s.g, s.r2, s.g2⟩
def SA.setRoot (s : SA) (r g : Int) : SA := if s.m = 3 then ⟨2, s.a, s.l, s.f, s.t, s.c0, s.c1, r, g, -1, 0⟩ else ⟨s.m, s.a, s.l, s.f, s.t, s.c0, s.c1, r, g, s.r2, s.g2⟩
def fin4 (s : SA) : T32 := if RightS s then s.out 0 else sa0.out 4
theorem apply_both (s : SA) (w : List Int) : ∃ v : T32, book_Apply.c s.m s.a s.l s.f s.t s.c0.x0 s.c0.x1 s.c0.x2 s.c0.x3 s.c0.x4 s.c0.x5 s.c0.x6 s.c0.x7 s.c0.x8 s.c0.x9 s.c0.x10 s.c1.x0 s.c1.x1 s.c1.x2 s.c1.x3 s.c1.x4 s.c1.x5 s.c1.x6 s.c1.x7 s.c1.x8 s.c1.x9 s.c1.x10 s.r s.g s.r2 s.g2 w = some v ∧ ref34_Apply.c s.m s.a s.l s.f s.t s.c0.x0 s.c0.x1 s.c0.x2 s.c0.x3 s.c0.x4 s.c0.x5 s.c0.x6 s.c0.x7 s.c0.x8 s.c0.x9 s.c0.x10 s.c1.x0 s.c1.x1 s.c1.x2 s.c1.x3 s.c1.x4 s.c1.x5 s.c1.x6 s.c1.x7 s.c1.x8 s.c1.x9 s.c1.x10 s.r s.g s.r2 s.g2 w = some v := by
 by_cases hl : w.length = 3
 rotate_left
 ·refine ⟨sa0.out 4, ?_, ?_⟩
  ·simp only [book_Apply.c, book_Apply.t]
   rw [bb_pos (by rw [bne_iff_ne]; omega), Tw.run_ret]; rfl
  ·simp only [ref34_Apply.c, ref34_Apply.t]
   rw [bb_pos (by rw [bne_iff_ne]; omega), Tw.run_ret]; rfl
 obtain ⟨a, b, c, rfl⟩ : ∃ a b c, w = [a, b, c] := by
  match w, hl with
  | [a, b, c], _ => exact ⟨_, _, _, rfl⟩
 by_cases h1 : a = 1
 ·subst h1
  by_cases hc : c = 0
  ·subst hc
   have e1 := book_Right_eq (s.setLeft (w64 b))
   have e2 := ref34_Right_eq (s.setLeft (w64 b))
   refine ⟨fin4 (s.setLeft (w64 b)), ?_, ?_⟩
   ·simp only [book_Apply.c, book_Apply.t]
    rw [bb_neg (by rfl), opt_some (x := 1) (by rfl), bb_pos (by rfl), opt_some (x := 0) (by rfl), bb_pos (by rfl), opt_some (x := b) (by rfl), opt_some (x := decide (RightS (s.setLeft (w64 b)))) (by exact e1)]
    unfold fin4
    by_cases h : RightS (s.setLeft (w64 b))
    ·rw [decide_eq_true h, bb_neg (by rfl), Tw.run_ret, if_pos h]; rfl
    ·rw [decide_eq_false h, bb_pos (by rfl), Tw.run_ret, if_neg h]; rfl
   ·simp only [ref34_Apply.c, ref34_Apply.t]
    rw [bb_neg (by rfl), opt_some (x := 1) (by rfl), bb_neg (by rfl), opt_some (x := 1) (by rfl), bb_pos (by rfl), opt_some (x := 0) (by rfl), bb_neg (by rfl), opt_some (x := 1) (by rfl), bb_pos (by rfl), opt_some (x := b) (by rfl), opt_some (x := decide (RightS (s.setLeft (w64 b)))) (by exact e2)]
    unfold fin4
    by_cases h : RightS (s.setLeft (w64 b))
    ·rw [decide_eq_true h, bb_neg (by rfl), Tw.run_ret, if_pos h]; rfl
    ·rw [decide_eq_false h, bb_pos (by rfl), Tw.run_ret, if_neg h]; rfl
  ·refine ⟨sa0.out 4, ?_, ?_⟩
   ·simp only [book_Apply.c, book_Apply.t]
    rw [bb_neg (by rfl), opt_some (x := 1) (by rfl), bb_pos (by rfl), opt_some (x := c) (by rfl), bb_neg (beq_eq_false_iff_ne.2 hc), opt_some (x := 1) (by rfl), bb_neg (by rfl), Tw.run_ret]; rfl
   ·simp only [ref34_Apply.c, ref34_Apply.t]
    rw [bb_neg (by rfl), opt_some (x := 1) (by rfl), bb_neg (by rfl), opt_some (x := 1) (by rfl), bb_pos (by rfl), opt_some (x := c) (by rfl), bb_pos (bne_iff_ne.2 hc), Tw.run_ret]; rfl
 by_cases h2 : a = 2
 ·subst h2
  refine ⟨fin4 (s.setRoot (w64 b) (w64 c)), ?_, ?_⟩
  ·simp only [book_Apply.c, book_Apply.t]
   rw [bb_neg (by rfl), opt_some (x := 2) (by rfl), bb_neg (by rfl), opt_some (x := 2) (by rfl), bb_pos (by rfl), opt_some (x := b) (by rfl), opt_some (x := c) (by rfl)]
   unfold fin4 SA.setRoot
   by_cases hm : s.m = 3
   ·rw [bb_pos (by simpa using hm), if_pos hm, opt_some (x := decide (RightS ⟨2, s.a, s.l, s.f, s.t, s.c0, s.c1, w64 b, w64 c, -1, 0⟩)) (by exact book_Right_eq ⟨2, s.a, s.l, s.f, s.t, s.c0, s.c1, w64 b, w64 c, -1, 0⟩)]
    by_cases h : RightS ⟨2, s.a, s.l, s.f, s.t, s.c0, s.c1, w64 b, w64 c, -1, 0⟩
    ·rw [decide_eq_true h, bb_neg (by rfl), Tw.run_ret, if_pos h]; rfl
    ·rw [decide_eq_false h, bb_pos (by rfl), Tw.run_ret, if_neg h]; rfl
   ·rw [bb_neg (by simpa using hm), if_neg hm, opt_some (x := decide (RightS ⟨s.m, s.a, s.l, s.f, s.t, s.c0, s.c1, w64 b, w64 c, s.r2, s.g2⟩)) (by exact book_Right_eq ⟨s.m, s.a, s.l, s.f, s.t, s.c0, s.c1, w64 b, w64 c, s.r2, s.g2⟩)]
    by_cases h : RightS ⟨s.m, s.a, s.l, s.f, s.t, s.c0, s.c1, w64 b, w64 c, s.r2, s.g2⟩
    ·rw [decide_eq_true h, bb_neg (by rfl), Tw.run_ret, if_pos h]; rfl
    ·rw [decide_eq_false h, bb_pos (by rfl), Tw.run_ret, if_neg h]; rfl
  ·simp only [ref34_Apply.c, ref34_Apply.t]
   rw [bb_neg (by rfl), opt_some (x := 2) (by rfl), bb_pos (by rfl), opt_some (x := 2) (by rfl), bb_neg (by rfl), opt_some (x := 2) (by rfl), bb_neg (by rfl), opt_some (x := 2) (by rfl), bb_neg (by rfl), opt_some (x := b) (by rfl), opt_some (x := c) (by rfl)]
   unfold fin4 SA.setRoot
   by_cases hm : s.m = 3
   ·rw [bb_pos (by simpa using hm), if_pos hm, opt_some (x := decide (RightS ⟨2, s.a, s.l, s.f, s.t, s.c0, s.c1, w64 b, w64 c, -1, 0⟩)) (by exact ref34_Right_eq ⟨2, s.a, s.l, s.f, s.t, s.c0, s.c1, w64 b, w64 c, -1, 0⟩)]
    by_cases h : RightS ⟨2, s.a, s.l, s.f, s.t, s.c0, s.c1, w64 b, w64 c, -1, 0⟩
    ·rw [decide_eq_true h, bb_neg (by rfl), Tw.run_ret, if_pos h]; rfl
    ·rw [decide_eq_false h, bb_pos (by rfl), Tw.run_ret, if_neg h]; rfl
   ·rw [bb_neg (by simpa using hm), if_neg hm, opt_some (x := decide (RightS ⟨s.m, s.a, s.l, s.f, s.t, s.c0, s.c1, w64 b, w64 c, s.r2, s.g2⟩)) (by exact ref34_Right_eq ⟨s.m, s.a, s.l, s.f, s.t, s.c0, s.c1, w64 b, w64 c, s.r2, s.g2⟩)]
    by_cases h : RightS ⟨s.m, s.a, s.l, s.f, s.t, s.c0, s.c1, w64 b, w64 c, s.r2, s.g2⟩
    ·rw [decide_eq_true h, bb_neg (by rfl), Tw.run_ret, if_pos h]; rfl
    ·rw [decide_eq_false h, bb_pos (by rfl), Tw.run_ret, if_neg h]; rfl
 ·refine ⟨sa0.out 4, ?_, ?_⟩
  ·simp only [book_Apply.c, book_Apply.t]
   rw [bb_neg (by rfl), opt_some (x := a) (by rfl), bb_neg (beq_eq_false_iff_ne.2 h1), opt_some (x := a) (by rfl), bb_neg (beq_eq_false_iff_ne.2 h2), Tw.run_ret]; rfl
  ·simp only [ref34_Apply.c, ref34_Apply.t]
   rw [bb_neg (by rfl), opt_some (x := a) (by rfl), bb_pos (bne_iff_ne.2 h1), opt_some (x := a) (by rfl), bb_pos (bne_iff_ne.2 h2), Tw.run_ret]; rfl

abbrev T31 : Type := Int × (Int × (Int × (Bool × (Int × (Int × (Int × (Int × (Int × (Int × (Int × (Int × (Int × (Int × (Int × (Int × (Int × (Int × (Int × (Int × (Int × (Int × (Int × (Int × (Int × (Int × (Int × (Int × (Int × (Int × Int)))))))))))))))))))))))))))))
def SA.tup (s : SA) : T31 := (s.m, s.a, s.l, s.f, s.t, s.c0.x0, s.c0.x1, s.c0.x2, s.c0.x3, s.c0.x4, s.c0.x5, s.c0.x6, s.c0.x7, s.c0.x8, s.c0.x9, s.c0.x10, s.c1.x0, s.c1.x1, s.c1.x2, s.c1.x3, s.c1.x4, s.c1.x5, s.c1.x6, s.c1.x7, s.c1.x8, s.c1.x9, s.c1.x10, s.r, s.g, s.r2, s.g2)
def saOf (v : T32) : SA := ⟨v.1, v.2.1, v.2.2.1, v.2.2.2.1, v.2.2.2.2.1, ⟨v.2.2.2.2.2.1, v.2.2.2.2.2.2.1, v.2.2.2.2.2.2.2.1, v.2.2.2.2.2.2.2.2.1, v.2.2.2.2.2.2.2.2.2.1, v.2.2.2.2.2.2.2.2.2.2.1, v.2.2.2.2.2.2.2.2.2.2.2.1, v.2.2.2.2.2.2.2.2.2.2.2.2.1, v.2.2.2.2.2.2.2.2.2.2.2.2.2.1, v.2.2.2.2.2.2.2.2.2.2.2.2.2.2.1, v.2.2.2.2.2.2.2.2.2.2.2.2.2.2.2.1⟩, ⟨v.2.2.2.2.2.2.2.2.2.2.2.2.2.2.2.2.1, v.2.2.2.2.2.2.2.2.2.2.2.2.2.2.2.2.2.1, v.2.2.2.2.2.2.2.2.2.2.2.2.2.2.2.2.2.2.1, v.2.2.2.2.2.2.2.2.2.2.2.2.2.2.2.2.2.2.2.1, v.2.2.2.2.2.2.2.2.2.2.2.2.2.2.2.2.2.2.2.2.1, v.2.2.2.2.2.2.2.2.2.2.2.2.2.2.2.2.2.2.2.2.2.1, v.2.2.2.2.2.2.2.2.2.2.2.2.2.2.2.2.2.2.2.2.2.2.1, v.2.2.2.2.2.2.2.2.2.2.2.2.2.2.2.2.2.2.2.2.2.2.2.1, v.2.2.2.2.2.2.2.2.2.2.2.2.2.2.2.2.2.2.2.2.2.2.2.2.1, v.2.2.2.2.2.2.2.2.2.2.2.2.2.2.2.2.2.2.2.2.2.2.2.2.2.1, v.2.2.2.2.2.2.2.2.2.2.2.2.2.2.2.2.2.2.2.2.2.2.2.2.2.2.1⟩, v.2.2.2.2.2.2.2.2.2.2.2.2.2.2.2.2.2.2.2.2.2.2.2.2.2.2.2.1, v.2.2.2.2.2.2.2.2.2.2.2.2.2.2.2.2.2.2.2.2.2.2.2.2.2.2.2.2.1, v.2.2.2.2.2.2.2.2.2.2.2.2.2.2.2.2.2.2.2.2.2.2.2.2.2.2.2.2.2.1, v.2.2.2.2.2.2.2.2.2.2.2.2.2.2.2.2.2.2.2.2.2.2.2.2.2.2.2.2.2.2.1⟩
def eOf (v : T32) : Int := v.2.2.2.2.2.2.2.2.2.2.2.2.2.2.2.2.2.2.2.2.2.2.2.2.2.2.2.2.2.2.2
noncomputable def apN (s : SA) (w : List Int) : T32 := (book_Apply.c s.m s.a s.l s.f s.t s.c0.x0 s.c0.x1 s.c0.x2 s.c0.x3 s.c0.x4 s.c0.x5 s.c0.x6 s.c0.x7 s.c0.x8 s.c0.x9 s.c0.x10 s.c1.x0 s.c1.x1 s.c1.x2 s.c1.x3 s.c1.x4 s.c1.x5 s.c1.x6 s.c1.x7 s.c1.x8 s.c1.x9 s.c1.x10 s.r s.g s.r2 s.g2 w).getD (s.out 0)
theorem apN_eq (s : SA) (w : List Int) : book_Apply.c s.m s.a s.l s.f s.t s.c0.x0 s.c0.x1 s.c0.x2 s.c0.x3 s.c0.x4 s.c0.x5 s.c0.x6 s.c0.x7 s.c0.x8 s.c0.x9 s.c0.x10 s.c1.x0 s.c1.x1 s.c1.x2 s.c1.x3 s.c1.x4 s.c1.x5 s.c1.x6 s.c1.x7 s.c1.x8 s.c1.x9 s.c1.x10 s.r s.g s.r2 s.g2 w = some (apN s w) ∧ ref34_Apply.c s.m s.a s.l s.f s.t s.c0.x0 s.c0.x1 s.c0.x2 s.c0.x3 s.c0.x4 s.c0.x5 s.c0.x6 s.c0.x7 s.c0.x8 s.c0.x9 s.c0.x10 s.c1.x0 s.c1.x1 s.c1.x2 s.c1.x3 s.c1.x4 s.c1.x5 s.c1.x6 s.c1.x7 s.c1.x8 s.c1.x9 s.c1.x10 s.r s.g s.r2 s.g2 w = some (apN s w) := by
 obtain ⟨v, h1, h2⟩ := apply_both s w
 have e : apN s w = v := by
  unfold apN
  rw [h1]
  rfl
 rw [e]
 exact ⟨h1, h2⟩
noncomputable def foN : List (List Int) → SA → Int → SA × Int
 | [], s, e => (s, e)
 | w :: ws, s, e => if e ≠ 0 then (s, e) else foN ws (saOf (apN s w)) (eOf (apN s w))
theorem book_L5_eq {chg : List (List Int)} (hl : chg.length ≤ 1024) {c tl : Int} {t : Bool} {sq : Int} {wh : List Int} {a1 a2 a3 a4 a5 a6 b1 b3 : Int} {b4 : Bool} {b5 : Int} {W V M : List Int} {cc : List (List Int)} (z : SA) : ∀ (k i : Nat) (s : SA) (e : Int), k + i = chg.length →
  book_Fold.L5 e (chg.length : Int) (i : Int) c tl t sq wh a1 a2 a3 a4 a5 a6 b1 b3 b4 b5 W V M cc z.m z.a z.l z.f z.t z.c0.x0 z.c0.x1 z.c0.x2 z.c0.x3 z.c0.x4 z.c0.x5 z.c0.x6 z.c0.x7 z.c0.x8 z.c0.x9 z.c0.x10 z.c1.x0 z.c1.x1 z.c1.x2 z.c1.x3 z.c1.x4 z.c1.x5 z.c1.x6 z.c1.x7 z.c1.x8 z.c1.x9 z.c1.x10 z.r z.g z.r2 z.g2 s.m s.a s.l s.f s.t s.c0.x0 s.c0.x1 s.c0.x2 s.c0.x3 s.c0.x4 s.c0.x5 s.c0.x6 s.c0.x7 s.c0.x8 s.c0.x9 s.c0.x10 s.c1.x0 s.c1.x1 s.c1.x2 s.c1.x3 s.c1.x4 s.c1.x5 s.c1.x6 s.c1.x7 s.c1.x8 s.c1.x9 s.c1.x10 s.r s.g s.r2 s.g2 chg = some ((foN (chg.drop i) s e).2, (foN (chg.drop i) s e).1.tup)
 | 0, i, s, e, h => by
  rw [List.drop_of_length_le (by omega)]
  refine Lp_end ?_
  simp only [book_Fold.l5]
  rw [bb_neg (decide_eq_false (by omega))]
  rfl
 | k + 1, i, s, e, h => by
  have hi : i < chg.length := by omega
  have e1 : w64 ((i : Int) + 1) = ((i + 1 : Nat) : Int) := by rw [w64_of (by omega) (by omega)]; omega
  rw [List.drop_eq_getElem_cons hi, foN]
  by_cases he : e = 0
  ·rw [if_neg (by simpa using he)]
   refine (Lp_next (s' := (eOf (apN s chg[i]), (((i + 1 : Nat) : Int), (saOf (apN s chg[i])).tup))) ?_).trans (book_L5_eq hl z k (i + 1) (saOf (apN s chg[i])) (eOf (apN s chg[i])) (by omega))
   simp only [book_Fold.l5]
   rw [bb_pos (decide_eq_true (by omega)), dd_pos (by omega), Int.toNat_natCast, opt_some (List.getElem?_eq_getElem hi), bb_neg (by rw [he]; rfl), opt_some (apN_eq s chg[i]).1, Tw.run_ret, e1]
   rfl
  ·rw [if_pos he]
   refine Lp_end ?_
   simp only [book_Fold.l5]
   rw [bb_pos (decide_eq_true (by omega)), dd_pos (by omega), Int.toNat_natCast, opt_some (List.getElem?_eq_getElem hi), bb_pos (by rw [bne_iff_ne]; exact he), Tw.run_ret]
   rfl
theorem ref34_L3_eq {chg : List (List Int)} (hl : chg.length ≤ 1024) (z : SA) : ∀ (k i : Nat) (s : SA) (e : Int), k + i = chg.length →
  ref34_Fold.L3 chg e (i : Int) z.m z.a z.l z.f z.t z.c0.x0 z.c0.x1 z.c0.x2 z.c0.x3 z.c0.x4 z.c0.x5 z.c0.x6 z.c0.x7 z.c0.x8 z.c0.x9 z.c0.x10 z.c1.x0 z.c1.x1 z.c1.x2 z.c1.x3 z.c1.x4 z.c1.x5 z.c1.x6 z.c1.x7 z.c1.x8 z.c1.x9 z.c1.x10 z.r z.g z.r2 z.g2 s.m s.a s.l s.f s.t s.c0.x0 s.c0.x1 s.c0.x2 s.c0.x3 s.c0.x4 s.c0.x5 s.c0.x6 s.c0.x7 s.c0.x8 s.c0.x9 s.c0.x10 s.c1.x0 s.c1.x1 s.c1.x2 s.c1.x3 s.c1.x4 s.c1.x5 s.c1.x6 s.c1.x7 s.c1.x8 s.c1.x9 s.c1.x10 s.r s.g s.r2 s.g2 = some ((foN (chg.drop i) s e).2, (foN (chg.drop i) s e).1.tup)
 | 0, i, s, e, h => by
  rw [List.drop_of_length_le (by omega)]
  refine Lp_end ?_
  simp only [ref34_Fold.l3]
  rw [bb_neg (decide_eq_false (by omega))]
  rfl
 | k + 1, i, s, e, h => by
  have hi : i < chg.length := by omega
  have e1 : w64 ((i : Int) + 1) = ((i + 1 : Nat) : Int) := by rw [w64_of (by omega) (by omega)]; omega
  rw [List.drop_eq_getElem_cons hi, foN]
  by_cases he : e = 0
  ·rw [if_neg (by simpa using he)]
   refine (Lp_next (s' := (eOf (apN s chg[i]), (((i + 1 : Nat) : Int), (saOf (apN s chg[i])).tup))) ?_).trans (ref34_L3_eq hl z k (i + 1) (saOf (apN s chg[i])) (eOf (apN s chg[i])) (by omega))
   simp only [ref34_Fold.l3]
   rw [bb_pos (decide_eq_true (by omega)), bb_pos (by rw [he]; rfl), dd_pos (by omega), Int.toNat_natCast, opt_some (List.getElem?_eq_getElem hi), opt_some (apN_eq s chg[i]).2, Tw.run_ret, e1]
   rfl
  ·rw [if_pos he]
   refine Lp_end ?_
   simp only [ref34_Fold.l3]
   rw [bb_pos (decide_eq_true (by omega)), bb_neg (beq_eq_false_iff_ne.2 he), Tw.run_ret]
   rfl
theorem ref34_Fold_eq {w : List Int} (hw : Words w) {chg : List (List Int)} (hl : chg.length ≤ 1024) {v : T32} (hv : ref34_Take.c w = some v) : ref34_Fold.c w chg = some ((foN chg (saOf v) (eOf v)).1.out (foN chg (saOf v) (eOf v)).2) := by
 have hL := ref34_L3_eq hl sa0 chg.length 0 (saOf v) (eOf v) (by omega)
 rw [List.drop_zero] at hL
 simp only [ref34_Fold.c, ref34_Fold.t]
 rw [opt_some hv, opt_some (by exact hL), Tw.run_ret]
 rfl

end Go.Proofs.Ytkoidgjgdhpdnaa.Pure
