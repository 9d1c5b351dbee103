/- The plain truth of ModeDown. -/
import Derived.Test.YtcnomgpbkimmeaaFlaw35
import Derived.Test.YtcnomgpbkimmeaaFlaw35ModeDown
import Derived.Test.YtcnomgpbkimmeaaQMode2
namespace Go.Proofs.Ytcnomgpbkimmeaa.Pure
open Go Go.Proofs.Ytcnomgpbkimmeaa.Va
set_option linter.unusedVariables false
set_option linter.unusedSimpArgs false

theorem modeDown (s : SA) (w0 w1 w2 w3 : Int) (c : Cd) (n0 n1 : Int) : law35_ModeDown.c s.m s.a s.l s.f s.t s.c0.x0 s.c0.x1 s.c0.x2 s.c0.x3 s.c0.x4 s.c0.x5 s.c0.x6 s.c0.x7 s.c0.x8 s.c0.x9 s.c0.x10 s.c1.x0 s.c1.x1 s.c1.x2 s.c1.x3 s.c1.x4 s.c1.x5 s.c1.x6 s.c1.x7 s.c1.x8 s.c1.x9 s.c1.x10 s.r s.g s.r2 s.g2 w0 w1 w2 w3 c.x0 c.x1 c.x2 c.x3 c.x4 c.x5 c.x6 c.x7 c.x8 c.x9 c.x10 n0 n1 = some true := by
  simp only [law35_ModeDown.c, law35_ModeDown.t]
  by_cases hm : s.m = 3
  rotate_left
  · rw [bb_pos (by simpa using hm), opt_some awake35, Tw.run_ret]
  rw [bb_neg (by simpa using hm), opt_some (mode_Commit_eq s w3 0 cd0)]
  rcases stepS_cases 5 s w3 0 cd0 with ⟨e, he, h⟩ | ⟨r0, _, _, r1, h⟩
  · rw [h, bb_pos (by exact bne_iff_ne.2 he), opt_some awake35, Tw.run_ret]
  rw [h, bb_neg (by rfl)]
  have e1 : nextS 5 s w3 0 cd0 = ⟨4, 1 - s.a, w3, false, 0, s.c0, s.c1, s.r2, s.g2, s.r, s.g⟩ := rfl
  have e2 : nextS 6 (nextS 5 s w3 0 cd0) 0 0 cd0 = ⟨0, 1 - s.a, 0, true, 0, s.c0, s.c1, s.r2, s.g2, -1, 0⟩ := rfl
  have hb := r1.2.2.2.2
  have r2 : RightS (nextS 6 (nextS 5 s w3 0 cd0) 0 0 cd0) := by
    refine ⟨r1.1, r1.2.1, r1.2.2.1, r1.2.2.2.1, Or.inl ⟨rfl, rfl, rfl, ⟨rfl, rfl⟩, Or.inl ⟨rfl, ?_⟩⟩⟩
    rcases hb with hb | hb | hb | hb | hb
    · exact absurd hb.1 (show ¬ (4 : Int) = 0 by decide)
    · exact absurd hb.1 (show ¬ (4 : Int) = 1 by decide)
    · exact absurd hb.1 (show ¬ (4 : Int) = 2 by decide)
    · exact absurd hb.1 (show ¬ (4 : Int) = 3 by decide)
    · exact hb.2.2.2.2.1
  have h6 : stepS 6 (nextS 5 s w3 0 cd0) 0 0 cd0 = (nextS 6 (nextS 5 s w3 0 cd0) 0 0 cd0).out 0 := by
    unfold stepS
    rw [if_pos r1, if_pos (by unfold fromS; exact Or.inr (Or.inr (Or.inr (Or.inr (Or.inr (Or.inl ⟨rfl, rfl⟩)))))), if_neg (fun h => absurd h.1 (by decide)), if_pos r2]
  rw [opt_some (x := (nextS 6 (nextS 5 s w3 0 cd0) 0 0 cd0).out 0) (by rw [← h6]; exact mode_Confirm_eq (nextS 5 s w3 0 cd0) 0 0 cd0), bb_neg (by rfl), bb_neg (by rfl), bb_neg (by show (s.r2 != s.r2) = false; simp), bb_neg (by show ((1 - s.a) == s.a) = false; rw [beq_eq_false_iff_ne]; have := r0.1; omega)]
  rw [e2] at r2 ⊢
  clear h6 e2
  rw [opt_some (x := stepS 8 ⟨0, 1 - s.a, 0, true, 0, s.c0, s.c1, s.r2, s.g2, -1, 0⟩ n0 n1 cd0) (by exact mode_Downgrade_eq ⟨0, 1 - s.a, 0, true, 0, s.c0, s.c1, s.r2, s.g2, -1, 0⟩ n0 n1 cd0)]
  have h8 : stepS 8 ⟨0, 1 - s.a, 0, true, 0, s.c0, s.c1, s.r2, s.g2, -1, 0⟩ n0 n1 cd0 = if RightS (nextS 8 ⟨0, 1 - s.a, 0, true, 0, s.c0, s.c1, s.r2, s.g2, -1, 0⟩ n0 n1 cd0) then (nextS 8 ⟨0, 1 - s.a, 0, true, 0, s.c0, s.c1, s.r2, s.g2, -1, 0⟩ n0 n1 cd0).out 0 else sa0.out 2 := by
    unfold stepS
    rw [if_pos r2, if_pos (by unfold fromS; exact Or.inr (Or.inr (Or.inr (Or.inr (Or.inr (Or.inr (Or.inr ⟨rfl, rfl⟩))))))), if_neg (fun h => nomatch h.2)]
  rw [h8]
  by_cases r3 : RightS (nextS 8 ⟨0, 1 - s.a, 0, true, 0, s.c0, s.c1, s.r2, s.g2, -1, 0⟩ n0 n1 cd0)
  rotate_left
  · rw [if_neg r3, bb_pos (by rfl), bb_pos (by rfl), opt_some awake35, Tw.run_ret]
  rw [if_pos r3, bb_neg (by rfl)]
  obtain ⟨T, hT⟩ : ∃ T, T = nextS 8 ⟨0, 1 - s.a, 0, true, 0, s.c0, s.c1, s.r2, s.g2, -1, 0⟩ n0 n1 cd0 := ⟨_, rfl⟩
  rw [← hT] at r3 ⊢
  have ta : T.a = s.a := by rw [hT]; show 1 - (1 - s.a) = s.a; omega
  have tf : T.f = false := by rw [hT]; rfl
  have tr : T.r = n0 := by rw [hT]; rfl
  have tm : T.m = 0 := by rw [hT]; rfl
  have t0 : T.c0 = (if 1 - s.a = 1 then (s.c0, cd0) else (cd0, s.c1) : Cd × Cd).1 := by rw [hT]; rfl
  have t1 : T.c1 = (if 1 - s.a = 1 then (s.c0, cd0) else (cd0, s.c1) : Cd × Cd).2 := by rw [hT]; rfl
  have h9 : mode_Downgrade.c T.m T.a T.l T.f T.t T.c0.x0 T.c0.x1 T.c0.x2 T.c0.x3 T.c0.x4 T.c0.x5 T.c0.x6 T.c0.x7 T.c0.x8 T.c0.x9 T.c0.x10 T.c1.x0 T.c1.x1 T.c1.x2 T.c1.x3 T.c1.x4 T.c1.x5 T.c1.x6 T.c1.x7 T.c1.x8 T.c1.x9 T.c1.x10 T.r T.g T.r2 T.g2 n0 n1 = some (sa0.out 8) := by
    rw [mode_Downgrade_eq T n0 n1 cd0]
    unfold stepS
    rw [if_pos r3, if_pos (by unfold fromS; omega), if_pos ⟨rfl, tf⟩]
  rw [opt_some (x := sa0.out 8) (by exact h9), bb_pos (by show (T.a == s.a) = true; simpa using ta)]
  rcases r0.1 with ha | ha
  · have e0 : T.c0 = s.c0 := by rw [t0, ha]; rfl
    rw [ha, show bAnd .i64 0 1 = 0 by decide, dd_neg (by decide), dd_pos (by decide), dd_neg (by decide), dd_pos (by decide)]
    rw [bb_pos (by rw [← e0]; show (T.c0.x0 == T.c0.x0 && (T.c0.x1 == T.c0.x1 && (T.c0.x2 == T.c0.x2 && (T.c0.x3 == T.c0.x3 && (T.c0.x4 == T.c0.x4 && (T.c0.x5 == T.c0.x5 && (T.c0.x6 == T.c0.x6 && (T.c0.x7 == T.c0.x7 && (T.c0.x8 == T.c0.x8 && (T.c0.x9 == T.c0.x9 && (T.c0.x10 == T.c0.x10 && true))))))))))) = true; simp), bb_pos (by show (T.r == n0) = true; simpa using tr), bb_pos (by show (!T.f) = true; rw [tf]; rfl), bb_pos (by rfl), opt_some awake35, Tw.run_ret]
  · have e0 : T.c1 = s.c1 := by rw [t1, ha]; rfl
    rw [ha, show bAnd .i64 1 1 = 1 by decide, dd_pos (by decide), dd_pos (by decide)]
    rw [bb_pos (by rw [← e0]; show (T.c1.x0 == T.c1.x0 && (T.c1.x1 == T.c1.x1 && (T.c1.x2 == T.c1.x2 && (T.c1.x3 == T.c1.x3 && (T.c1.x4 == T.c1.x4 && (T.c1.x5 == T.c1.x5 && (T.c1.x6 == T.c1.x6 && (T.c1.x7 == T.c1.x7 && (T.c1.x8 == T.c1.x8 && (T.c1.x9 == T.c1.x9 && (T.c1.x10 == T.c1.x10 && true))))))))))) = true; simp), bb_pos (by show (T.r == n0) = true; simpa using tr), bb_pos (by show (!T.f) = true; rw [tf]; rfl), bb_pos (by rfl), opt_some awake35, Tw.run_ret]


theorem ModeDown (a0_0 : Int) (a0_1 : Int) (a0_2 : Int) (a0_3 : Bool) (a0_4 : Int) (a0_5_0_0 : Int) (a0_5_0_1 : Int) (a0_5_0_2 : Int) (a0_5_0_3_0 : Int) (a0_5_0_3_1 : Int) (a0_5_0_3_2 : Int) (a0_5_0_3_3 : Int) (a0_5_0_3_4 : Int) (a0_5_0_3_5 : Int) (a0_5_0_3_6 : Int) (a0_5_0_3_7 : Int) (a0_5_1_0 : Int) (a0_5_1_1 : Int) (a0_5_1_2 : Int) (a0_5_1_3_0 : Int) (a0_5_1_3_1 : Int) (a0_5_1_3_2 : Int) (a0_5_1_3_3 : Int) (a0_5_1_3_4 : Int) (a0_5_1_3_5 : Int) (a0_5_1_3_6 : Int) (a0_5_1_3_7 : Int) (a0_6 : Int) (a0_7 : Int) (a0_8 : Int) (a0_9 : Int) (a1_0 : Int) (a1_1 : Int) (a1_2 : Int) (a1_3 : Int) (a1_4_0 : Int) (a1_4_1 : Int) (a1_4_2 : Int) (a1_4_3_0 : Int) (a1_4_3_1 : Int) (a1_4_3_2 : Int) (a1_4_3_3 : Int) (a1_4_3_4 : Int) (a1_4_3_5 : Int) (a1_4_3_6 : Int) (a1_4_3_7 : Int) (a2_0 : Int) (a2_1 : Int) (w0 : InR .i64 a0_0) (w1 : InR .i64 a0_1) (w2 : InR .i64 a0_2) (w3 : InR .i64 a0_4) (w4 : InR .i64 a0_5_0_0) (w5 : InR .i64 a0_5_0_1) (w6 : InR .i64 a0_5_0_2) (w7 : InR .u32 a0_5_0_3_0) (w8 : InR .u32 a0_5_0_3_1) (w9 : InR .u32 a0_5_0_3_2) (w10 : InR .u32 a0_5_0_3_3) (w11 : InR .u32 a0_5_0_3_4) (w12 : InR .u32 a0_5_0_3_5) (w13 : InR .u32 a0_5_0_3_6) (w14 : InR .u32 a0_5_0_3_7) (w15 : InR .i64 a0_5_1_0) (w16 : InR .i64 a0_5_1_1) (w17 : InR .i64 a0_5_1_2) (w18 : InR .u32 a0_5_1_3_0) (w19 : InR .u32 a0_5_1_3_1) (w20 : InR .u32 a0_5_1_3_2) (w21 : InR .u32 a0_5_1_3_3) (w22 : InR .u32 a0_5_1_3_4) (w23 : InR .u32 a0_5_1_3_5) (w24 : InR .u32 a0_5_1_3_6) (w25 : InR .u32 a0_5_1_3_7) (w26 : InR .i64 a0_6) (w27 : InR .i64 a0_7) (w28 : InR .i64 a0_8) (w29 : InR .i64 a0_9) (w30 : InR .i64 a1_0) (w31 : InR .i64 a1_1) (w32 : InR .i64 a1_2) (w33 : InR .i64 a1_3) (w34 : InR .i64 a1_4_0) (w35 : InR .i64 a1_4_1) (w36 : InR .i64 a1_4_2) (w37 : InR .u32 a1_4_3_0) (w38 : InR .u32 a1_4_3_1) (w39 : InR .u32 a1_4_3_2) (w40 : InR .u32 a1_4_3_3) (w41 : InR .u32 a1_4_3_4) (w42 : InR .u32 a1_4_3_5) (w43 : InR .u32 a1_4_3_6) (w44 : InR .u32 a1_4_3_7) (w45 : InR .i64 a2_0) (w46 : InR .i64 a2_1) : law35_ModeDown.c a0_0 a0_1 a0_2 a0_3 a0_4 a0_5_0_0 a0_5_0_1 a0_5_0_2 a0_5_0_3_0 a0_5_0_3_1 a0_5_0_3_2 a0_5_0_3_3 a0_5_0_3_4 a0_5_0_3_5 a0_5_0_3_6 a0_5_0_3_7 a0_5_1_0 a0_5_1_1 a0_5_1_2 a0_5_1_3_0 a0_5_1_3_1 a0_5_1_3_2 a0_5_1_3_3 a0_5_1_3_4 a0_5_1_3_5 a0_5_1_3_6 a0_5_1_3_7 a0_6 a0_7 a0_8 a0_9 a1_0 a1_1 a1_2 a1_3 a1_4_0 a1_4_1 a1_4_2 a1_4_3_0 a1_4_3_1 a1_4_3_2 a1_4_3_3 a1_4_3_4 a1_4_3_5 a1_4_3_6 a1_4_3_7 a2_0 a2_1 = some true := by
  exact modeDown ⟨a0_0, a0_1, a0_2, a0_3, a0_4, ⟨a0_5_0_0, a0_5_0_1, a0_5_0_2, a0_5_0_3_0, a0_5_0_3_1, a0_5_0_3_2, a0_5_0_3_3, a0_5_0_3_4, a0_5_0_3_5, a0_5_0_3_6, a0_5_0_3_7⟩, ⟨a0_5_1_0, a0_5_1_1, a0_5_1_2, a0_5_1_3_0, a0_5_1_3_1, a0_5_1_3_2, a0_5_1_3_3, a0_5_1_3_4, a0_5_1_3_5, a0_5_1_3_6, a0_5_1_3_7⟩, a0_6, a0_7, a0_8, a0_9⟩ a1_0 a1_1 a1_2 a1_3 ⟨a1_4_0, a1_4_1, a1_4_2, a1_4_3_0, a1_4_3_1, a1_4_3_2, a1_4_3_3, a1_4_3_4, a1_4_3_5, a1_4_3_6, a1_4_3_7⟩ a2_0 a2_1

end Go.Proofs.Ytcnomgpbkimmeaa.Pure
