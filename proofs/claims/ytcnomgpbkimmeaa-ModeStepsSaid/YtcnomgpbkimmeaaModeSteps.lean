/- The plain truth of ModeSteps. -/
import Derived.Test.YtcnomgpbkimmeaaFlaw35
import Derived.Test.YtcnomgpbkimmeaaFlaw35ModeSteps
import Derived.Test.YtcnomgpbkimmeaaQMode2
namespace Go.Proofs.Ytcnomgpbkimmeaa.Pure
open Go Go.Proofs.Ytcnomgpbkimmeaa.Va
set_option linter.unusedVariables false
set_option linter.unusedSimpArgs false

theorem modeSteps (s : SA) (k n0 n1 : Int) (c : Cd) : law35_ModeSteps.c s.m s.a s.l s.f s.t s.c0.x0 s.c0.x1 s.c0.x2 s.c0.x3 s.c0.x4 s.c0.x5 s.c0.x6 s.c0.x7 s.c0.x8 s.c0.x9 s.c0.x10 s.c1.x0 s.c1.x1 s.c1.x2 s.c1.x3 s.c1.x4 s.c1.x5 s.c1.x6 s.c1.x7 s.c1.x8 s.c1.x9 s.c1.x10 s.r s.g s.r2 s.g2 k n0 n1 c.x0 c.x1 c.x2 c.x3 c.x4 c.x5 c.x6 c.x7 c.x8 c.x9 c.x10 = some true := by
  have hk := kind8 k
  simp only [law35_ModeSteps.c, law35_ModeSteps.t]
  generalize w64 (1 + w64 (Int.tmod (wu64 k) 8)) = K at *
  rw [opt_some (law35_do_eq K hk s n0 n1 c), opt_some (ref35_Step_eq K hk s n0 n1 c), bb_neg (by simp only [beq_self_eq_true, Bool.true_and, Bool.and_true, Bool.not_true]), bb_neg (by simp only [bne_self_eq_false])]
  rcases stepS_cases K s n0 n1 c with ⟨e, he, h⟩ | ⟨h1, h2, h3, h4, h⟩
  · rw [h, bb_neg (by exact beq_eq_false_iff_ne.2 he), opt_some (ref34_Right_eq s)]
    by_cases hr : RightS s
    · rw [decide_eq_true hr, bb_neg (by rfl), opt_some (x := w64 (imax s.g s.g2 + 1)) (by rfl), opt_some (x := w64 (imax s.g s.g2 + 1)) (by rfl), bb_pos (by simp), opt_some awake35, Tw.run_ret]
    · rw [decide_eq_false hr, bb_pos (by rfl), opt_some awake35, Tw.run_ret]
  · rw [h]
    generalize nextS K s n0 n1 c = T at *
    rw [bb_pos (by rfl), opt_some (x := true) (by rw [← decide_eq_true h4]; exact ref34_Right_eq T), bb_neg (by rfl), opt_some (ref34_Right_eq s), decide_eq_true h1, bb_neg (by rfl), opt_some (x := w64 (imax s.g s.g2 + 1)) (by rfl), opt_some (x := w64 (imax s.g s.g2 + 1)) (by rfl), bb_pos (by simp), opt_some awake35, Tw.run_ret]


theorem ModeSteps (a0_0 : Int) (a0_1 : Int) (a0_2 : Int) (a0_3 : Bool) (a0_4 : Int) (a0_5_0_0 : Int) (a0_5_0_1 : Int) (a0_5_0_2 : Int) (a0_5_0_3_0 : Int) (a0_5_0_3_1 : Int) (a0_5_0_3_2 : Int) (a0_5_0_3_3 : Int) (a0_5_0_3_4 : Int) (a0_5_0_3_5 : Int) (a0_5_0_3_6 : Int) (a0_5_0_3_7 : Int) (a0_5_1_0 : Int) (a0_5_1_1 : Int) (a0_5_1_2 : Int) (a0_5_1_3_0 : Int) (a0_5_1_3_1 : Int) (a0_5_1_3_2 : Int) (a0_5_1_3_3 : Int) (a0_5_1_3_4 : Int) (a0_5_1_3_5 : Int) (a0_5_1_3_6 : Int) (a0_5_1_3_7 : Int) (a0_6 : Int) (a0_7 : Int) (a0_8 : Int) (a0_9 : Int) (a1_0 : Int) (a1_1_0 : Int) (a1_1_1 : Int) (a1_2_0 : Int) (a1_2_1 : Int) (a1_2_2 : Int) (a1_2_3_0 : Int) (a1_2_3_1 : Int) (a1_2_3_2 : Int) (a1_2_3_3 : Int) (a1_2_3_4 : Int) (a1_2_3_5 : Int) (a1_2_3_6 : Int) (a1_2_3_7 : Int) (w0 : InR .i64 a0_0) (w1 : InR .i64 a0_1) (w2 : InR .i64 a0_2) (w3 : InR .i64 a0_4) (w4 : InR .i64 a0_5_0_0) (w5 : InR .i64 a0_5_0_1) (w6 : InR .i64 a0_5_0_2) (w7 : InR .u32 a0_5_0_3_0) (w8 : InR .u32 a0_5_0_3_1) (w9 : InR .u32 a0_5_0_3_2) (w10 : InR .u32 a0_5_0_3_3) (w11 : InR .u32 a0_5_0_3_4) (w12 : InR .u32 a0_5_0_3_5) (w13 : InR .u32 a0_5_0_3_6) (w14 : InR .u32 a0_5_0_3_7) (w15 : InR .i64 a0_5_1_0) (w16 : InR .i64 a0_5_1_1) (w17 : InR .i64 a0_5_1_2) (w18 : InR .u32 a0_5_1_3_0) (w19 : InR .u32 a0_5_1_3_1) (w20 : InR .u32 a0_5_1_3_2) (w21 : InR .u32 a0_5_1_3_3) (w22 : InR .u32 a0_5_1_3_4) (w23 : InR .u32 a0_5_1_3_5) (w24 : InR .u32 a0_5_1_3_6) (w25 : InR .u32 a0_5_1_3_7) (w26 : InR .i64 a0_6) (w27 : InR .i64 a0_7) (w28 : InR .i64 a0_8) (w29 : InR .i64 a0_9) (w30 : InR .i64 a1_0) (w31 : InR .i64 a1_1_0) (w32 : InR .i64 a1_1_1) (w33 : InR .i64 a1_2_0) (w34 : InR .i64 a1_2_1) (w35 : InR .i64 a1_2_2) (w36 : InR .u32 a1_2_3_0) (w37 : InR .u32 a1_2_3_1) (w38 : InR .u32 a1_2_3_2) (w39 : InR .u32 a1_2_3_3) (w40 : InR .u32 a1_2_3_4) (w41 : InR .u32 a1_2_3_5) (w42 : InR .u32 a1_2_3_6) (w43 : InR .u32 a1_2_3_7) : law35_ModeSteps.c a0_0 a0_1 a0_2 a0_3 a0_4 a0_5_0_0 a0_5_0_1 a0_5_0_2 a0_5_0_3_0 a0_5_0_3_1 a0_5_0_3_2 a0_5_0_3_3 a0_5_0_3_4 a0_5_0_3_5 a0_5_0_3_6 a0_5_0_3_7 a0_5_1_0 a0_5_1_1 a0_5_1_2 a0_5_1_3_0 a0_5_1_3_1 a0_5_1_3_2 a0_5_1_3_3 a0_5_1_3_4 a0_5_1_3_5 a0_5_1_3_6 a0_5_1_3_7 a0_6 a0_7 a0_8 a0_9 a1_0 a1_1_0 a1_1_1 a1_2_0 a1_2_1 a1_2_2 a1_2_3_0 a1_2_3_1 a1_2_3_2 a1_2_3_3 a1_2_3_4 a1_2_3_5 a1_2_3_6 a1_2_3_7 = some true := by
  exact modeSteps ⟨a0_0, a0_1, a0_2, a0_3, a0_4, ⟨a0_5_0_0, a0_5_0_1, a0_5_0_2, a0_5_0_3_0, a0_5_0_3_1, a0_5_0_3_2, a0_5_0_3_3, a0_5_0_3_4, a0_5_0_3_5, a0_5_0_3_6, a0_5_0_3_7⟩, ⟨a0_5_1_0, a0_5_1_1, a0_5_1_2, a0_5_1_3_0, a0_5_1_3_1, a0_5_1_3_2, a0_5_1_3_3, a0_5_1_3_4, a0_5_1_3_5, a0_5_1_3_6, a0_5_1_3_7⟩, a0_6, a0_7, a0_8, a0_9⟩ a1_0 a1_1_0 a1_1_1 ⟨a1_2_0, a1_2_1, a1_2_2, a1_2_3_0, a1_2_3_1, a1_2_3_2, a1_2_3_3, a1_2_3_4, a1_2_3_5, a1_2_3_6, a1_2_3_7⟩

end Go.Proofs.Ytcnomgpbkimmeaa.Pure
