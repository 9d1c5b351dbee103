/- The plain truth of ModeBack. -/
import Derived.Test.YtcnomgpbkimmeaaFlaw35
import Derived.Test.YtcnomgpbkimmeaaFlaw35ModeBack
import Derived.Test.YtcnomgpbkimmeaaQMode2
namespace Go.Proofs.Ytcnomgpbkimmeaa.Pure
open Go Go.Proofs.Ytcnomgpbkimmeaa.Va
set_option linter.unusedVariables false
set_option linter.unusedSimpArgs false

theorem modeBack (s : SA) (w0 w1 w2 w3 : Int) (c : Cd) : law35_ModeBack.c s.m s.a s.l s.f s.t s.c0.x0 s.c0.x1 s.c0.x2 s.c0.x3 s.c0.x4 s.c0.x5 s.c0.x6 s.c0.x7 s.c0.x8 s.c0.x9 s.c0.x10 s.c1.x0 s.c1.x1 s.c1.x2 s.c1.x3 s.c1.x4 s.c1.x5 s.c1.x6 s.c1.x7 s.c1.x8 s.c1.x9 s.c1.x10 s.r s.g s.r2 s.g2 w0 w1 w2 w3 c.x0 c.x1 c.x2 c.x3 c.x4 c.x5 c.x6 c.x7 c.x8 c.x9 c.x10 = some true := by
  simp only [law35_ModeBack.c, law35_ModeBack.t]
  rw [opt_some (mode_Begin_eq s w0 0 cd0)]
  rcases stepS_cases 1 s w0 0 cd0 with ⟨e, he, h⟩ | ⟨r0, _, _, r1, h⟩
  · rw [h, bb_pos (by exact bne_iff_ne.2 he), opt_some awake35, Tw.run_ret]
  have k1 := keep1 s w0 0 cd0
  have m1 : (nextS 1 s w0 0 cd0).m = 1 := rfl
  rw [h, bb_neg (by rfl)]
  generalize nextS 1 s w0 0 cd0 = A at *
  rw [opt_some (x := (nextS 3 A 0 0 cd0).out 0) (by exact abort_ok r1 (by omega) 0 0 cd0), bb_neg (by rfl), opt_some (x := true) (by exact kept_true r0.1 (k1.trans (keep3 A 0 0 cd0))), bb_neg (by rfl), bb_neg (by rfl)]
  rw [opt_some (x := stepS 2 A 0 0 c) (by exact mode_Finish_eq A 0 0 c)]
  rcases stepS_cases 2 A 0 0 c with ⟨e, he, h⟩ | ⟨_, _, _, r2, h⟩
  · rw [h, bb_pos (by exact bne_iff_ne.2 he), opt_some awake35, Tw.run_ret]
  have k2 := k1.trans (keep2 A 0 0 c)
  have m2 : (nextS 2 A 0 0 c).m = 2 := rfl
  rw [h, bb_neg (by rfl)]
  generalize nextS 2 A 0 0 c = B at *
  rw [opt_some (x := (nextS 3 B 0 0 cd0).out 0) (by exact abort_ok r2 (by omega) 0 0 cd0), bb_neg (by rfl), opt_some (x := true) (by exact kept_true r0.1 (k2.trans (keep3 B 0 0 cd0))), bb_neg (by rfl)]
  rw [opt_some (x := stepS 4 B w1 w2 cd0) (by exact mode_Migrate_eq B w1 w2 cd0)]
  rcases stepS_cases 4 B w1 w2 cd0 with ⟨e, he, h⟩ | ⟨_, _, _, r3, h⟩
  · rw [h, bb_pos (by exact bne_iff_ne.2 he), opt_some awake35, Tw.run_ret]
  have k3 := k2.trans (keep4 B w1 w2 cd0)
  have m3 : (nextS 4 B w1 w2 cd0).m = 3 := rfl
  have e3 : (nextS 4 B w1 w2 cd0).r2 = w1 := rfl
  rw [h, bb_neg (by rfl)]
  generalize nextS 4 B w1 w2 cd0 = D at *
  rw [opt_some (x := (nextS 3 D 0 0 cd0).out 0) (by exact abort_ok r3 (by omega) 0 0 cd0), bb_neg (by rfl), opt_some (x := true) (by exact kept_true r0.1 (k3.trans (keep3 D 0 0 cd0))), bb_neg (by rfl)]
  rw [opt_some (x := stepS 5 D w3 0 cd0) (by exact mode_Commit_eq D w3 0 cd0)]
  rcases stepS_cases 5 D w3 0 cd0 with ⟨e, he, h⟩ | ⟨_, _, _, r4, h⟩
  · rw [h, bb_pos (by exact bne_iff_ne.2 he), opt_some awake35, Tw.run_ret]
  obtain ⟨q1, q2⟩ := roll_ok r3 w3 r4
  have ka := k3.a
  rw [h, bb_neg (by rfl), opt_some (x := (nextS 7 (nextS 5 D w3 0 cd0) 0 0 cd0).out 0) (by exact q1), bb_pos (by rfl), opt_some (x := true) (by exact kept_true r0.1 (k3.trans q2)), bb_pos (by rfl), bb_pos (by rfl), bb_pos (by rfl),
    bb_pos (by show ((1 - D.a) != s.a) = true; rw [bne_iff_ne]; have := r0.1; omega), bb_pos (by show (D.r2 == w1) = true; rw [e3]; simp), opt_some awake35, Tw.run_ret]


theorem ModeBack (a0_0 : Int) (a0_1 : Int) (a0_2 : Int) (a0_3 : Bool) (a0_4 : Int) (a0_5_0_0 : Int) (a0_5_0_1 : Int) (a0_5_0_2 : Int) (a0_5_0_3_0 : Int) (a0_5_0_3_1 : Int) (a0_5_0_3_2 : Int) (a0_5_0_3_3 : Int) (a0_5_0_3_4 : Int) (a0_5_0_3_5 : Int) (a0_5_0_3_6 : Int) (a0_5_0_3_7 : Int) (a0_5_1_0 : Int) (a0_5_1_1 : Int) (a0_5_1_2 : Int) (a0_5_1_3_0 : Int) (a0_5_1_3_1 : Int) (a0_5_1_3_2 : Int) (a0_5_1_3_3 : Int) (a0_5_1_3_4 : Int) (a0_5_1_3_5 : Int) (a0_5_1_3_6 : Int) (a0_5_1_3_7 : Int) (a0_6 : Int) (a0_7 : Int) (a0_8 : Int) (a0_9 : Int) (a1_0 : Int) (a1_1 : Int) (a1_2 : Int) (a1_3 : Int) (a1_4_0 : Int) (a1_4_1 : Int) (a1_4_2 : Int) (a1_4_3_0 : Int) (a1_4_3_1 : Int) (a1_4_3_2 : Int) (a1_4_3_3 : Int) (a1_4_3_4 : Int) (a1_4_3_5 : Int) (a1_4_3_6 : Int) (a1_4_3_7 : Int) (w0 : InR .i64 a0_0) (w1 : InR .i64 a0_1) (w2 : InR .i64 a0_2) (w3 : InR .i64 a0_4) (w4 : InR .i64 a0_5_0_0) (w5 : InR .i64 a0_5_0_1) (w6 : InR .i64 a0_5_0_2) (w7 : InR .u32 a0_5_0_3_0) (w8 : InR .u32 a0_5_0_3_1) (w9 : InR .u32 a0_5_0_3_2) (w10 : InR .u32 a0_5_0_3_3) (w11 : InR .u32 a0_5_0_3_4) (w12 : InR .u32 a0_5_0_3_5) (w13 : InR .u32 a0_5_0_3_6) (w14 : InR .u32 a0_5_0_3_7) (w15 : InR .i64 a0_5_1_0) (w16 : InR .i64 a0_5_1_1) (w17 : InR .i64 a0_5_1_2) (w18 : InR .u32 a0_5_1_3_0) (w19 : InR .u32 a0_5_1_3_1) (w20 : InR .u32 a0_5_1_3_2) (w21 : InR .u32 a0_5_1_3_3) (w22 : InR .u32 a0_5_1_3_4) (w23 : InR .u32 a0_5_1_3_5) (w24 : InR .u32 a0_5_1_3_6) (w25 : InR .u32 a0_5_1_3_7) (w26 : InR .i64 a0_6) (w27 : InR .i64 a0_7) (w28 : InR .i64 a0_8) (w29 : InR .i64 a0_9) (w30 : InR .i64 a1_0) (w31 : InR .i64 a1_1) (w32 : InR .i64 a1_2) (w33 : InR .i64 a1_3) (w34 : InR .i64 a1_4_0) (w35 : InR .i64 a1_4_1) (w36 : InR .i64 a1_4_2) (w37 : InR .u32 a1_4_3_0) (w38 : InR .u32 a1_4_3_1) (w39 : InR .u32 a1_4_3_2) (w40 : InR .u32 a1_4_3_3) (w41 : InR .u32 a1_4_3_4) (w42 : InR .u32 a1_4_3_5) (w43 : InR .u32 a1_4_3_6) (w44 : InR .u32 a1_4_3_7) : law35_ModeBack.c a0_0 a0_1 a0_2 a0_3 a0_4 a0_5_0_0 a0_5_0_1 a0_5_0_2 a0_5_0_3_0 a0_5_0_3_1 a0_5_0_3_2 a0_5_0_3_3 a0_5_0_3_4 a0_5_0_3_5 a0_5_0_3_6 a0_5_0_3_7 a0_5_1_0 a0_5_1_1 a0_5_1_2 a0_5_1_3_0 a0_5_1_3_1 a0_5_1_3_2 a0_5_1_3_3 a0_5_1_3_4 a0_5_1_3_5 a0_5_1_3_6 a0_5_1_3_7 a0_6 a0_7 a0_8 a0_9 a1_0 a1_1 a1_2 a1_3 a1_4_0 a1_4_1 a1_4_2 a1_4_3_0 a1_4_3_1 a1_4_3_2 a1_4_3_3 a1_4_3_4 a1_4_3_5 a1_4_3_6 a1_4_3_7 = some true := by
  exact modeBack ⟨a0_0, a0_1, a0_2, a0_3, a0_4, ⟨a0_5_0_0, a0_5_0_1, a0_5_0_2, a0_5_0_3_0, a0_5_0_3_1, a0_5_0_3_2, a0_5_0_3_3, a0_5_0_3_4, a0_5_0_3_5, a0_5_0_3_6, a0_5_0_3_7⟩, ⟨a0_5_1_0, a0_5_1_1, a0_5_1_2, a0_5_1_3_0, a0_5_1_3_1, a0_5_1_3_2, a0_5_1_3_3, a0_5_1_3_4, a0_5_1_3_5, a0_5_1_3_6, a0_5_1_3_7⟩, a0_6, a0_7, a0_8, a0_9⟩ a1_0 a1_1 a1_2 a1_3 ⟨a1_4_0, a1_4_1, a1_4_2, a1_4_3_0, a1_4_3_1, a1_4_3_2, a1_4_3_3, a1_4_3_4, a1_4_3_5, a1_4_3_6, a1_4_3_7⟩

end Go.Proofs.Ytcnomgpbkimmeaa.Pure
