/- Layers 34, 35: states, which may be, and what comes of them. (printed by mkmode.py) -/
import Derived.Test.YtcnomgpbkimmeaaQX
import Derived.Test.YtcnomgpbkimmeaaFbook
namespace Go.Proofs.Ytcnomgpbkimmeaa.Pure
open Go Go.Proofs.Ytcnomgpbkimmeaa.Va
set_option linter.unusedVariables false
set_option linter.unusedSimpArgs false

/-- A card. -/
structure Cd where
  x0 : Int
  x1 : Int
  x2 : Int
  x3 : Int
  x4 : Int
  x5 : Int
  x6 : Int
  x7 : Int
  x8 : Int
  x9 : Int
  x10 : Int
def Cd.ap {β : Type} (c : Cd) (f : Int → Int → Int → Int → Int → Int → Int → Int → Int → Int → Int → β) : β := f c.x0 c.x1 c.x2 c.x3 c.x4 c.x5 c.x6 c.x7 c.x8 c.x9 c.x10
def cd0 : Cd := ⟨0, 0, 0, 0, 0, 0, 0, 0, 0, 0, 0⟩
/-- A state. -/
structure SA where
  m : Int
  a : Int
  l : Int
  f : Bool
  t : Int
  c0 : Cd
  c1 : Cd
  r : Int
  g : Int
  r2 : Int
  g2 : Int
def SA.ap {β : Type} (s : SA) (f : Int → Int → Int → Bool → Int → Int → Int → Int → Int → Int → Int → Int → Int → Int → Int → Int → Int → Int → Int → Int → Int → Int → Int → Int → Int → Int → Int → Int → Int → Int → Int →  β) : β := f s.m s.a s.l s.f s.t s.c0.x0 s.c0.x1 s.c0.x2 s.c0.x3 s.c0.x4 s.c0.x5 s.c0.x6 s.c0.x7 s.c0.x8 s.c0.x9 s.c0.x10 s.c1.x0 s.c1.x1 s.c1.x2 s.c1.x3 s.c1.x4 s.c1.x5 s.c1.x6 s.c1.x7 s.c1.x8 s.c1.x9 s.c1.x10 s.r s.g s.r2 s.g2
abbrev T32 : Type := Int × (Int × (Int × (Bool × (Int × (Int × (Int × (Int × (Int × (Int × (Int × (Int × (Int × (Int × (Int × (Int × (Int × (Int × (Int × (Int × (Int × (Int × (Int × (Int × (Int × (Int × (Int × (Int × (Int × (Int × (Int × Int))))))))))))))))))))))))))))))
def SA.out (s : SA) (e : Int) : T32 := (s.m, s.a, s.l, s.f, s.t, s.c0.x0, s.c0.x1, s.c0.x2, s.c0.x3, s.c0.x4, s.c0.x5, s.c0.x6, s.c0.x7, s.c0.x8, s.c0.x9, s.c0.x10, s.c1.x0, s.c1.x1, s.c1.x2, s.c1.x3, s.c1.x4, s.c1.x5, s.c1.x6, s.c1.x7, s.c1.x8, s.c1.x9, s.c1.x10, s.r, s.g, s.r2, s.g2, e)
def sa0 : SA := ⟨0, 0, 0, false, 0, cd0, cd0, 0, 0, 0, 0⟩

/-- May a card be? -/
def ThereC (c : Cd) : Prop := (1 ≤ c.x0 ∧ c.x0 ≤ 65535) ∧ (1 ≤ c.x1 ∧ c.x1 ≤ 65535) ∧ (1 ≤ c.x2 ∧ c.x2 ≤ 131072)
instance (c : Cd) : Decidable (ThereC c) := by unfold ThereC; infer_instance
def NoneC (c : Cd) : Prop := c.x0 = 0 ∧ c.x1 = 0 ∧ c.x2 = 0 ∧ c.x3 = 0 ∧ c.x4 = 0 ∧ c.x5 = 0 ∧ c.x6 = 0 ∧ c.x7 = 0 ∧ c.x8 = 0 ∧ c.x9 = 0 ∧ c.x10 = 0
instance (c : Cd) : Decidable (NoneC c) := by unfold NoneC; infer_instance
def Lone (s : SA) : Prop := s.r2 = -1 ∧ s.g2 = 0
instance (s : SA) : Decidable (Lone s) := by unfold Lone; infer_instance
def Both (s : SA) : Prop := (0 ≤ s.r2 ∧ s.r2 ≤ 127) ∧ (1 ≤ s.g2 ∧ s.g2 ≤ 1073741823) ∧ s.r2 ≠ s.r
instance (s : SA) : Decidable (Both s) := by unfold Both; infer_instance
/-- What a mode asks. -/
def BodyS (s : SA) (o : Cd) : Prop :=
  (s.m = 0 ∧ s.l = 0 ∧ s.t = 0 ∧ Lone s ∧ ((s.f = true ∧ ThereC o) ∨ (s.f = false ∧ NoneC o))) ∨ (s.m = 1 ∧ s.l = 0 ∧ s.f = false ∧ (1 ≤ s.t ∧ s.t ≤ 131072) ∧ NoneC o ∧ Lone s) ∨
  (s.m = 2 ∧ s.l = 0 ∧ s.t = 0 ∧ s.f = false ∧ ThereC o ∧ Lone s) ∨ (s.m = 3 ∧ s.l = 0 ∧ s.t = 0 ∧ s.f = false ∧ ThereC o ∧ Both s) ∨ (s.m = 4 ∧ (0 ≤ s.l ∧ s.l ≤ 9) ∧ s.f = false ∧ s.t = 0 ∧ ThereC o ∧ Both s)
instance (s : SA) (o : Cd) : Decidable (BodyS s o) := by unfold BodyS; infer_instance
def SA.cur (s : SA) : Cd := if s.a = 1 then s.c1 else s.c0
def SA.oth (s : SA) : Cd := if s.a = 1 then s.c0 else s.c1
/-- May a state be? -/
def RightS (s : SA) : Prop := (s.a = 0 ∨ s.a = 1) ∧ ThereC s.cur ∧ (0 ≤ s.r ∧ s.r ≤ 127) ∧ (1 ≤ s.g ∧ s.g ≤ 1073741823) ∧ BodyS s s.oth
instance (s : SA) : Decidable (RightS s) := by unfold RightS; infer_instance

theorem sd {b : Bool} {P : Prop} [Decidable P] (h : b = true ↔ P) : some b = some (decide P) := by
  congr 1
  rw [Bool.eq_iff_iff, decide_eq_true_iff]
  exact h
theorem book_in_eq (n lo hi : Int) : book_in.c n lo hi = some (decide (lo ≤ n ∧ n ≤ hi)) := by
  simp only [book_in.c, book_in.t, Tw.run_bb, Tw.run_ret, decide_eq_true_eq, ge_iff_le]
  split <;> (apply sd; (try simp only [decide_eq_true_eq]); grind)
theorem book_there_eq (c : Cd) : book_there.c c.x0 c.x1 c.x2 c.x3 c.x4 c.x5 c.x6 c.x7 c.x8 c.x9 c.x10 = some (decide (ThereC c)) := by
  simp only [book_there.c, book_there.t, Tw.run_bb, Tw.run_ret, Tw.run_opt, book_in_eq, Option.bind_some, decide_eq_true_eq, ThereC]
  repeat' split
  all_goals (apply sd; (try simp only [decide_eq_true_eq, bne_iff_ne, beq_iff_eq]); grind)
theorem none_beq (c : Cd) : ((c.x0 == 0) && ((c.x1 == 0) && ((c.x2 == 0) && ((c.x3 == 0) && ((c.x4 == 0) && ((c.x5 == 0) && ((c.x6 == 0) && ((c.x7 == 0) && ((c.x8 == 0) && ((c.x9 == 0) && ((c.x10 == 0) && true))))))))))) = decide (NoneC c) := by
  rw [Bool.eq_iff_iff, decide_eq_true_iff]
  simp only [Bool.and_eq_true, beq_iff_eq, NoneC, and_true]
theorem book_none_eq (c : Cd) : book_none.c c.x0 c.x1 c.x2 c.x3 c.x4 c.x5 c.x6 c.x7 c.x8 c.x9 c.x10 = some (decide (NoneC c)) := by
  simp only [book_none.c, book_none.t, Tw.run_ret, none_beq]
theorem book_lone_eq (s : SA) : book_lone.c s.m s.a s.l s.f s.t s.c0.x0 s.c0.x1 s.c0.x2 s.c0.x3 s.c0.x4 s.c0.x5 s.c0.x6 s.c0.x7 s.c0.x8 s.c0.x9 s.c0.x10 s.c1.x0 s.c1.x1 s.c1.x2 s.c1.x3 s.c1.x4 s.c1.x5 s.c1.x6 s.c1.x7 s.c1.x8 s.c1.x9 s.c1.x10 s.r s.g s.r2 s.g2 = some (decide (Lone s)) := by
  simp only [book_lone.c, book_lone.t, Tw.run_bb, Tw.run_ret, Lone]
  split <;> (apply sd; simp only [beq_iff_eq] at *; grind)
theorem book_both_eq (s : SA) : book_both.c s.m s.a s.l s.f s.t s.c0.x0 s.c0.x1 s.c0.x2 s.c0.x3 s.c0.x4 s.c0.x5 s.c0.x6 s.c0.x7 s.c0.x8 s.c0.x9 s.c0.x10 s.c1.x0 s.c1.x1 s.c1.x2 s.c1.x3 s.c1.x4 s.c1.x5 s.c1.x6 s.c1.x7 s.c1.x8 s.c1.x9 s.c1.x10 s.r s.g s.r2 s.g2 = some (decide (Both s)) := by
  simp only [book_both.c, book_both.t, Tw.run_bb, Tw.run_ret, Tw.run_opt, book_in_eq, Option.bind_some, decide_eq_true_eq, Both]
  repeat' split
  all_goals (apply sd; (try simp only [decide_eq_true_eq, bne_iff_ne, beq_iff_eq]); grind)
theorem w64_1a {a : Int} (h : a = 0 ∨ a = 1) : w64 (1 - a) = 1 - a := w64_of (by omega) (by omega)
theorem book_C3_0 (s : SA) (h : s.a = 0) : book_Right.C3 s.m s.a s.l s.f s.t s.c0.x0 s.c0.x1 s.c0.x2 s.c0.x3 s.c0.x4 s.c0.x5 s.c0.x6 s.c0.x7 s.c0.x8 s.c0.x9 s.c0.x10 s.c1.x0 s.c1.x1 s.c1.x2 s.c1.x3 s.c1.x4 s.c1.x5 s.c1.x6 s.c1.x7 s.c1.x8 s.c1.x9 s.c1.x10 s.r s.g s.r2 s.g2 = some (decide (BodyS s s.c1)) := by
  simp only [book_Right.C3, book_Right.c3]
  rw [w64_1a (Or.inl h), dd_pos (by omega)]
  simp only [Tw.run_bb, Tw.run_ret, Tw.run_opt, book_in_eq, book_there_eq, book_none_eq, book_lone_eq, book_both_eq, Option.bind_some, beq_iff_eq, decide_eq_true_eq, Bool.not_eq_true']
  repeat' split
  all_goals (apply sd; unfold BodyS; (try simp only [decide_eq_true_eq]); grind)
theorem book_C3_1 (s : SA) (h : s.a = 1) : book_Right.C3 s.m s.a s.l s.f s.t s.c0.x0 s.c0.x1 s.c0.x2 s.c0.x3 s.c0.x4 s.c0.x5 s.c0.x6 s.c0.x7 s.c0.x8 s.c0.x9 s.c0.x10 s.c1.x0 s.c1.x1 s.c1.x2 s.c1.x3 s.c1.x4 s.c1.x5 s.c1.x6 s.c1.x7 s.c1.x8 s.c1.x9 s.c1.x10 s.r s.g s.r2 s.g2 = some (decide (BodyS s s.c0)) := by
  simp only [book_Right.C3, book_Right.c3]
  rw [w64_1a (Or.inr h), dd_neg (by omega), dd_pos (by omega)]
  simp only [Tw.run_bb, Tw.run_ret, Tw.run_opt, book_in_eq, book_there_eq, book_none_eq, book_lone_eq, book_both_eq, Option.bind_some, beq_iff_eq, decide_eq_true_eq, Bool.not_eq_true']
  repeat' split
  all_goals (apply sd; unfold BodyS; (try simp only [decide_eq_true_eq]); grind)
theorem book_C3_eq (s : SA) (h : s.a = 0 ∨ s.a = 1) : book_Right.C3 s.m s.a s.l s.f s.t s.c0.x0 s.c0.x1 s.c0.x2 s.c0.x3 s.c0.x4 s.c0.x5 s.c0.x6 s.c0.x7 s.c0.x8 s.c0.x9 s.c0.x10 s.c1.x0 s.c1.x1 s.c1.x2 s.c1.x3 s.c1.x4 s.c1.x5 s.c1.x6 s.c1.x7 s.c1.x8 s.c1.x9 s.c1.x10 s.r s.g s.r2 s.g2 = some (decide (BodyS s s.oth)) := by
  rcases h with h | h
  · rw [show s.oth = s.c1 from if_neg (by omega)]
    exact book_C3_0 s h
  · rw [show s.oth = s.c0 from if_pos h]
    exact book_C3_1 s h
theorem book_Right_eq (s : SA) : book_Right.c s.m s.a s.l s.f s.t s.c0.x0 s.c0.x1 s.c0.x2 s.c0.x3 s.c0.x4 s.c0.x5 s.c0.x6 s.c0.x7 s.c0.x8 s.c0.x9 s.c0.x10 s.c1.x0 s.c1.x1 s.c1.x2 s.c1.x3 s.c1.x4 s.c1.x5 s.c1.x6 s.c1.x7 s.c1.x8 s.c1.x9 s.c1.x10 s.r s.g s.r2 s.g2 = some (decide (RightS s)) := by
  simp only [book_Right.c, book_Right.t, Tw.run_opt, book_in_eq, book_there_eq, Option.bind_some]
  by_cases h : s.a = 0 ∨ s.a = 1
  rotate_left
  · rw [decide_eq_false (by omega), bb_pos (by rfl), Tw.run_ret, decide_eq_false (fun g => h g.1)]
  rw [decide_eq_true (by omega), bb_neg (by rfl)]
  simp only [Tw.run_dd, Tw.run_opt, Tw.run_bb, Tw.run_ret, book_in_eq, book_there_eq, book_C3_eq s h, Option.bind_some]
  rcases h with h | h
  · have e : s.cur = s.c0 := if_neg (by omega)
    rw [if_neg (by omega), if_pos (by omega)]
    simp only [decide_eq_true_eq, Bool.not_eq_true', decide_eq_false_iff_not]
    repeat' split
    all_goals (apply sd; unfold RightS; rw [e]; (try simp only [decide_eq_true_eq]); grind)
  · have e : s.cur = s.c1 := if_pos h
    rw [if_pos (by omega)]
    simp only [decide_eq_true_eq, Bool.not_eq_true', decide_eq_false_iff_not]
    repeat' split
    all_goals (apply sd; unfold RightS; rw [e]; (try simp only [decide_eq_true_eq]); grind)

/-- What a mode asks, told by four words. -/
def BodyB (has none two one : Bool) (s : SA) : Prop :=
  (s.m = 0 ∧ one = true ∧ ((s.f = true ∧ has = true) ∨ (s.f = false ∧ none = true))) ∨ (s.m = 1 ∧ one = true ∧ none = true ∧ (1 ≤ s.t ∧ s.t ≤ 131072)) ∨
  (s.m = 2 ∧ one = true ∧ has = true) ∨ (s.m = 3 ∧ two = true ∧ has = true) ∨ (s.m = 4 ∧ two = true ∧ has = true ∧ (0 ≤ s.l ∧ s.l ≤ 9))
instance (a b c d : Bool) (s : SA) : Decidable (BodyB a b c d s) := by unfold BodyB; infer_instance
theorem body_iff (s : SA) (o : Cd) : ((s.m = 4 ∨ s.l = 0) ∧ (s.m = 0 ∨ s.f = false) ∧ (s.m = 1 ∨ s.t = 0) ∧ BodyB (decide (ThereC o)) (decide (NoneC o)) (decide (Both s)) (decide (Lone s)) s) ↔ BodyS s o := by
  unfold BodyB BodyS
  simp only [decide_eq_true_eq]
  constructor
  · rintro ⟨h1, h2, h3, h⟩
    rcases h with h | h | h | h | h
    · exact Or.inl (by grind)
    · exact Or.inr (Or.inl (by grind))
    · exact Or.inr (Or.inr (Or.inl (by grind)))
    · exact Or.inr (Or.inr (Or.inr (Or.inl (by grind))))
    · exact Or.inr (Or.inr (Or.inr (Or.inr (by grind))))
  · intro h
    rcases h with h | h | h | h | h
    · exact ⟨by grind, by grind, by grind, Or.inl (by grind)⟩
    · exact ⟨by grind, by grind, by grind, Or.inr (Or.inl (by grind))⟩
    · exact ⟨by grind, by grind, by grind, Or.inr (Or.inr (Or.inl (by grind)))⟩
    · exact ⟨by grind, by grind, by grind, Or.inr (Or.inr (Or.inr (Or.inl (by grind))))⟩
    · exact ⟨by grind, by grind, by grind, Or.inr (Or.inr (Or.inr (Or.inr (by grind))))⟩
end Go.Proofs.Ytcnomgpbkimmeaa.Pure
