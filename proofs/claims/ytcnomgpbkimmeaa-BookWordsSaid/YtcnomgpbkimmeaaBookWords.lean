/- The plain truth of BookWords. -/
import Derived.Test.YtcnomgpbkimmeaaFlaw34
import Derived.Test.YtcnomgpbkimmeaaFlaw34BookWords
import Derived.Test.YtcnomgpbkimmeaaQBook
namespace Go.Proofs.Ytcnomgpbkimmeaa.Pure
open Go Go.Proofs.Ytcnomgpbkimmeaa.Va
set_option linter.unusedVariables false
set_option linter.unusedSimpArgs false

theorem same_lists {a b : List Int} (ha : a.length ≤ 1000) : ref01_Same.c a b = some (decide (a = b)) := ref01_Same_eq (by omega)
theorem layB_len (s : SA) : (layB s).length ≤ 1000 := by show 26 ≤ 1000; decide
theorem bookWords (s : SA) {w : List Int} (hw : Words w) : law34_BookWords.c s.m s.a s.l s.f s.t s.c0.x0 s.c0.x1 s.c0.x2 s.c0.x3 s.c0.x4 s.c0.x5 s.c0.x6 s.c0.x7 s.c0.x8 s.c0.x9 s.c0.x10 s.c1.x0 s.c1.x1 s.c1.x2 s.c1.x3 s.c1.x4 s.c1.x5 s.c1.x6 s.c1.x7 s.c1.x8 s.c1.x9 s.c1.x10 s.r s.g s.r2 s.g2 w = some true := by
  simp only [law34_BookWords.c, law34_BookWords.t]
  obtain ⟨v, hv1, hv2⟩ := take_both hw
  rw [opt_some (book_Lay_eq s), opt_some (ref34_Right_eq s)]
  by_cases h : RightS s
  · rw [if_pos h, decide_eq_true h, bb_pos (by rfl), opt_some (ref34_Lay_eq h), opt_some (same_lists (layB_len s)), bb_neg (by simp), bb_neg (by rfl), opt_some hv1, opt_some hv2, bb_pos (by simp only [beq_self_eq_true, Bool.true_and, Bool.and_true]), bb_pos (by simp), opt_some (book_Right_eq s), opt_some (ref34_Right_eq s), bb_pos (by simp), opt_some awake34, Tw.run_ret]
  · rw [if_neg h, decide_eq_false h, bb_neg (by rfl), bb_neg (by rfl), bb_neg (by rfl), opt_some hv1, opt_some hv2, bb_pos (by simp only [beq_self_eq_true, Bool.true_and, Bool.and_true]), bb_pos (by simp), opt_some (book_Right_eq s), opt_some (ref34_Right_eq s), bb_pos (by simp), opt_some awake34, Tw.run_ret]

theorem BookWords (a0_0 : Int) (a0_1 : Int) (a0_2 : Int) (a0_3 : Bool) (a0_4 : Int) (a0_5_0_0 : Int) (a0_5_0_1 : Int) (a0_5_0_2 : Int) (a0_5_0_3_0 : Int) (a0_5_0_3_1 : Int) (a0_5_0_3_2 : Int) (a0_5_0_3_3 : Int) (a0_5_0_3_4 : Int) (a0_5_0_3_5 : Int) (a0_5_0_3_6 : Int) (a0_5_0_3_7 : Int) (a0_5_1_0 : Int) (a0_5_1_1 : Int) (a0_5_1_2 : Int) (a0_5_1_3_0 : Int) (a0_5_1_3_1 : Int) (a0_5_1_3_2 : Int) (a0_5_1_3_3 : Int) (a0_5_1_3_4 : Int) (a0_5_1_3_5 : Int) (a0_5_1_3_6 : Int) (a0_5_1_3_7 : Int) (a0_6 : Int) (a0_7 : Int) (a0_8 : Int) (a0_9 : Int) (a1 : List Int) (w0 : InR .i64 a0_0) (w1 : InR .i64 a0_1) (w2 : InR .i64 a0_2) (w3 : InR .i64 a0_4) (w4 : InR .i64 a0_5_0_0) (w5 : InR .i64 a0_5_0_1) (w6 : InR .i64 a0_5_0_2) (w7 : InR .u32 a0_5_0_3_0) (w8 : InR .u32 a0_5_0_3_1) (w9 : InR .u32 a0_5_0_3_2) (w10 : InR .u32 a0_5_0_3_3) (w11 : InR .u32 a0_5_0_3_4) (w12 : InR .u32 a0_5_0_3_5) (w13 : InR .u32 a0_5_0_3_6) (w14 : InR .u32 a0_5_0_3_7) (w15 : InR .i64 a0_5_1_0) (w16 : InR .i64 a0_5_1_1) (w17 : InR .i64 a0_5_1_2) (w18 : InR .u32 a0_5_1_3_0) (w19 : InR .u32 a0_5_1_3_1) (w20 : InR .u32 a0_5_1_3_2) (w21 : InR .u32 a0_5_1_3_3) (w22 : InR .u32 a0_5_1_3_4) (w23 : InR .u32 a0_5_1_3_5) (w24 : InR .u32 a0_5_1_3_6) (w25 : InR .u32 a0_5_1_3_7) (w26 : InR .i64 a0_6) (w27 : InR .i64 a0_7) (w28 : InR .i64 a0_8) (w29 : InR .i64 a0_9) (w30 : a1.length * 4 ≤ reachBytes) (w31 : ∀ x32 ∈ a1, InR .u32 x32) : law34_BookWords.c a0_0 a0_1 a0_2 a0_3 a0_4 a0_5_0_0 a0_5_0_1 a0_5_0_2 a0_5_0_3_0 a0_5_0_3_1 a0_5_0_3_2 a0_5_0_3_3 a0_5_0_3_4 a0_5_0_3_5 a0_5_0_3_6 a0_5_0_3_7 a0_5_1_0 a0_5_1_1 a0_5_1_2 a0_5_1_3_0 a0_5_1_3_1 a0_5_1_3_2 a0_5_1_3_3 a0_5_1_3_4 a0_5_1_3_5 a0_5_1_3_6 a0_5_1_3_7 a0_6 a0_7 a0_8 a0_9 a1 = some true := by
  exact bookWords ⟨a0_0, a0_1, a0_2, a0_3, a0_4, ⟨a0_5_0_0, a0_5_0_1, a0_5_0_2, a0_5_0_3_0, a0_5_0_3_1, a0_5_0_3_2, a0_5_0_3_3, a0_5_0_3_4, a0_5_0_3_5, a0_5_0_3_6, a0_5_0_3_7⟩, ⟨a0_5_1_0, a0_5_1_1, a0_5_1_2, a0_5_1_3_0, a0_5_1_3_1, a0_5_1_3_2, a0_5_1_3_3, a0_5_1_3_4, a0_5_1_3_5, a0_5_1_3_6, a0_5_1_3_7⟩, a0_6, a0_7, a0_8, a0_9⟩ w31

end Go.Proofs.Ytcnomgpbkimmeaa.Pure
