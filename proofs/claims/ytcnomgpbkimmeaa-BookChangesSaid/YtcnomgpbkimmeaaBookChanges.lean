/- The plain truth of BookChanges. -/
import Derived.Test.YtcnomgpbkimmeaaFlaw34
import Derived.Test.YtcnomgpbkimmeaaFlaw34BookChanges
import Derived.Test.YtcnomgpbkimmeaaQBook
namespace Go.Proofs.Ytcnomgpbkimmeaa.Pure
open Go Go.Proofs.Ytcnomgpbkimmeaa.Va
set_option linter.unusedVariables false
set_option linter.unusedSimpArgs false

theorem same_lists {a b : List Int} (ha : a.length ≤ 1000) : ref01_Same.c a b = some (decide (a = b)) := ref01_Same_eq (by omega)
theorem layB_len (s : SA) : (layB s).length ≤ 1000 := by show 26 ≤ 1000; decide
def SA.setLeft (s : SA) (l : Int) : SA := ⟨s.m, s.a, l, s.f, s.t, s.c0, s.c1, s.r, s.g, s.r2, s.g2⟩
def SA.setRoot (s : SA) (r g : Int) : SA := if s.m = 3 then ⟨2, s.a, s.l, s.f, s.t, s.c0, s.c1, r, g, -1, 0⟩ else ⟨s.m, s.a, s.l, s.f, s.t, s.c0, s.c1, r, g, s.r2, s.g2⟩
def fin4 (s : SA) : T32 := if RightS s then s.out 0 else sa0.out 4
theorem apply_both (s : SA) (w : List Int) : ∃ v : T32, book_Apply.c s.m s.a s.l s.f s.t s.c0.x0 s.c0.x1 s.c0.x2 s.c0.x3 s.c0.x4 s.c0.x5 s.c0.x6 s.c0.x7 s.c0.x8 s.c0.x9 s.c0.x10 s.c1.x0 s.c1.x1 s.c1.x2 s.c1.x3 s.c1.x4 s.c1.x5 s.c1.x6 s.c1.x7 s.c1.x8 s.c1.x9 s.c1.x10 s.r s.g s.r2 s.g2 w = some v ∧ ref34_Apply.c s.m s.a s.l s.f s.t s.c0.x0 s.c0.x1 s.c0.x2 s.c0.x3 s.c0.x4 s.c0.x5 s.c0.x6 s.c0.x7 s.c0.x8 s.c0.x9 s.c0.x10 s.c1.x0 s.c1.x1 s.c1.x2 s.c1.x3 s.c1.x4 s.c1.x5 s.c1.x6 s.c1.x7 s.c1.x8 s.c1.x9 s.c1.x10 s.r s.g s.r2 s.g2 w = some v := by
  by_cases hl : w.length = 3
  rotate_left
  · refine ⟨sa0.out 4, ?_, ?_⟩
    · simp only [book_Apply.c, book_Apply.t]
      rw [bb_pos (by rw [bne_iff_ne]; omega), Tw.run_ret]; rfl
    · simp only [ref34_Apply.c, ref34_Apply.t]
      rw [bb_pos (by rw [bne_iff_ne]; omega), Tw.run_ret]; rfl
  obtain ⟨a, b, c, rfl⟩ : ∃ a b c, w = [a, b, c] := by
    match w, hl with
    | [a, b, c], _ => exact ⟨_, _, _, rfl⟩
  by_cases h1 : a = 1
  · subst h1
    by_cases hc : c = 0
    · subst hc
      have e1 := book_Right_eq (s.setLeft (w64 b))
      have e2 := ref34_Right_eq (s.setLeft (w64 b))
      refine ⟨fin4 (s.setLeft (w64 b)), ?_, ?_⟩
      · simp only [book_Apply.c, book_Apply.t]
        rw [bb_neg (by rfl), opt_some (x := 1) (by rfl), bb_pos (by rfl), opt_some (x := 0) (by rfl), bb_pos (by rfl), opt_some (x := b) (by rfl), opt_some (x := decide (RightS (s.setLeft (w64 b)))) (by exact e1)]
        unfold fin4
        by_cases h : RightS (s.setLeft (w64 b))
        · rw [decide_eq_true h, bb_neg (by rfl), Tw.run_ret, if_pos h]; rfl
        · rw [decide_eq_false h, bb_pos (by rfl), Tw.run_ret, if_neg h]; rfl
      · simp only [ref34_Apply.c, ref34_Apply.t]
        rw [bb_neg (by rfl), opt_some (x := 1) (by rfl), bb_neg (by rfl), opt_some (x := 1) (by rfl), bb_pos (by rfl), opt_some (x := 0) (by rfl), bb_neg (by rfl), opt_some (x := 1) (by rfl), bb_pos (by rfl), opt_some (x := b) (by rfl), opt_some (x := decide (RightS (s.setLeft (w64 b)))) (by exact e2)]
        unfold fin4
        by_cases h : RightS (s.setLeft (w64 b))
        · rw [decide_eq_true h, bb_neg (by rfl), Tw.run_ret, if_pos h]; rfl
        · rw [decide_eq_false h, bb_pos (by rfl), Tw.run_ret, if_neg h]; rfl
    · refine ⟨sa0.out 4, ?_, ?_⟩
      · simp only [book_Apply.c, book_Apply.t]
        rw [bb_neg (by rfl), opt_some (x := 1) (by rfl), bb_pos (by rfl), opt_some (x := c) (by rfl), bb_neg (beq_eq_false_iff_ne.2 hc), opt_some (x := 1) (by rfl), bb_neg (by rfl), Tw.run_ret]; rfl
      · simp only [ref34_Apply.c, ref34_Apply.t]
        rw [bb_neg (by rfl), opt_some (x := 1) (by rfl), bb_neg (by rfl), opt_some (x := 1) (by rfl), bb_pos (by rfl), opt_some (x := c) (by rfl), bb_pos (bne_iff_ne.2 hc), Tw.run_ret]; rfl
  by_cases h2 : a = 2
  · subst h2
    refine ⟨fin4 (s.setRoot (w64 b) (w64 c)), ?_, ?_⟩
    · simp only [book_Apply.c, book_Apply.t]
      rw [bb_neg (by rfl), opt_some (x := 2) (by rfl), bb_neg (by rfl), opt_some (x := 2) (by rfl), bb_pos (by rfl), opt_some (x := b) (by rfl), opt_some (x := c) (by rfl)]
      unfold fin4 SA.setRoot
      by_cases hm : s.m = 3
      · rw [bb_pos (by simpa using hm), if_pos hm, opt_some (x := decide (RightS ⟨2, s.a, s.l, s.f, s.t, s.c0, s.c1, w64 b, w64 c, -1, 0⟩)) (by exact book_Right_eq ⟨2, s.a, s.l, s.f, s.t, s.c0, s.c1, w64 b, w64 c, -1, 0⟩)]
        by_cases h : RightS ⟨2, s.a, s.l, s.f, s.t, s.c0, s.c1, w64 b, w64 c, -1, 0⟩
        · rw [decide_eq_true h, bb_neg (by rfl), Tw.run_ret, if_pos h]; rfl
        · rw [decide_eq_false h, bb_pos (by rfl), Tw.run_ret, if_neg h]; rfl
      · rw [bb_neg (by simpa using hm), if_neg hm, opt_some (x := decide (RightS ⟨s.m, s.a, s.l, s.f, s.t, s.c0, s.c1, w64 b, w64 c, s.r2, s.g2⟩)) (by exact book_Right_eq ⟨s.m, s.a, s.l, s.f, s.t, s.c0, s.c1, w64 b, w64 c, s.r2, s.g2⟩)]
        by_cases h : RightS ⟨s.m, s.a, s.l, s.f, s.t, s.c0, s.c1, w64 b, w64 c, s.r2, s.g2⟩
        · rw [decide_eq_true h, bb_neg (by rfl), Tw.run_ret, if_pos h]; rfl
        · rw [decide_eq_false h, bb_pos (by rfl), Tw.run_ret, if_neg h]; rfl
    · simp only [ref34_Apply.c, ref34_Apply.t]
      rw [bb_neg (by rfl), opt_some (x := 2) (by rfl), bb_pos (by rfl), opt_some (x := 2) (by rfl), bb_neg (by rfl), opt_some (x := 2) (by rfl), bb_neg (by rfl), opt_some (x := 2) (by rfl), bb_neg (by rfl), opt_some (x := b) (by rfl), opt_some (x := c) (by rfl)]
      unfold fin4 SA.setRoot
      by_cases hm : s.m = 3
      · rw [bb_pos (by simpa using hm), if_pos hm, opt_some (x := decide (RightS ⟨2, s.a, s.l, s.f, s.t, s.c0, s.c1, w64 b, w64 c, -1, 0⟩)) (by exact ref34_Right_eq ⟨2, s.a, s.l, s.f, s.t, s.c0, s.c1, w64 b, w64 c, -1, 0⟩)]
        by_cases h : RightS ⟨2, s.a, s.l, s.f, s.t, s.c0, s.c1, w64 b, w64 c, -1, 0⟩
        · rw [decide_eq_true h, bb_neg (by rfl), Tw.run_ret, if_pos h]; rfl
        · rw [decide_eq_false h, bb_pos (by rfl), Tw.run_ret, if_neg h]; rfl
      · rw [bb_neg (by simpa using hm), if_neg hm, opt_some (x := decide (RightS ⟨s.m, s.a, s.l, s.f, s.t, s.c0, s.c1, w64 b, w64 c, s.r2, s.g2⟩)) (by exact ref34_Right_eq ⟨s.m, s.a, s.l, s.f, s.t, s.c0, s.c1, w64 b, w64 c, s.r2, s.g2⟩)]
        by_cases h : RightS ⟨s.m, s.a, s.l, s.f, s.t, s.c0, s.c1, w64 b, w64 c, s.r2, s.g2⟩
        · rw [decide_eq_true h, bb_neg (by rfl), Tw.run_ret, if_pos h]; rfl
        · rw [decide_eq_false h, bb_pos (by rfl), Tw.run_ret, if_neg h]; rfl
  · refine ⟨sa0.out 4, ?_, ?_⟩
    · simp only [book_Apply.c, book_Apply.t]
      rw [bb_neg (by rfl), opt_some (x := a) (by rfl), bb_neg (beq_eq_false_iff_ne.2 h1), opt_some (x := a) (by rfl), bb_neg (beq_eq_false_iff_ne.2 h2), Tw.run_ret]; rfl
    · simp only [ref34_Apply.c, ref34_Apply.t]
      rw [bb_neg (by rfl), opt_some (x := a) (by rfl), bb_pos (bne_iff_ne.2 h1), opt_some (x := a) (by rfl), bb_pos (bne_iff_ne.2 h2), Tw.run_ret]; rfl
theorem w32_mask (n : Int) : w32 (bAnd .i64 n 4294967295) = w32 n := by
  have e : (BitVec.ofInt 64 n &&& BitVec.ofInt 64 4294967295).toNat = (BitVec.ofInt 64 n).toNat % 4294967296 := by
    rw [BitVec.toNat_and, show (BitVec.ofInt 64 4294967295).toNat = 2 ^ 32 - 1 by decide, Nat.and_two_pow_sub_one_eq_mod]
  have h2 : bAnd .i64 n 4294967295 = w64 ((((BitVec.ofInt 64 n).toNat % 4294967296 : Nat)) : Int) := by
    show w64 ((BitVec.ofInt 64 n &&& BitVec.ofInt 64 4294967295).toNat : Int) = _
    rw [e]
  have h3 : (((BitVec.ofInt 64 n).toNat : Nat) : Int) = n % 18446744073709551616 := by
    rw [BitVec.toNat_ofInt]
    omega
  rw [h2, w64_of (by omega) (by omega), w32_eq, w32_eq]
  omega
theorem bookChanges (s : SA) (w : List Int) (n0 n1 : Int) : law34_BookChanges.c s.m s.a s.l s.f s.t s.c0.x0 s.c0.x1 s.c0.x2 s.c0.x3 s.c0.x4 s.c0.x5 s.c0.x6 s.c0.x7 s.c0.x8 s.c0.x9 s.c0.x10 s.c1.x0 s.c1.x1 s.c1.x2 s.c1.x3 s.c1.x4 s.c1.x5 s.c1.x6 s.c1.x7 s.c1.x8 s.c1.x9 s.c1.x10 s.r s.g s.r2 s.g2 w n0 n1 = some true := by
  simp only [law34_BookChanges.c, law34_BookChanges.t]
  rw [opt_some (ref34_Right_eq s)]
  by_cases h : RightS s
  rotate_left
  · rw [decide_eq_false h, bb_pos (by rfl), opt_some awake34, Tw.run_ret]
  have hL : law34_BookChanges.L7 w 0 s.m s.a s.l s.f s.t s.c0.x0 s.c0.x1 s.c0.x2 s.c0.x3 s.c0.x4 s.c0.x5 s.c0.x6 s.c0.x7 s.c0.x8 s.c0.x9 s.c0.x10 s.c1.x0 s.c1.x1 s.c1.x2 s.c1.x3 s.c1.x4 s.c1.x5 s.c1.x6 s.c1.x7 s.c1.x8 s.c1.x9 s.c1.x10 s.r s.g s.r2 s.g2 [1, w32 n0, 0] [2, w32 n0, w32 n1] = some (.inl ()) := by
    unfold law34_BookChanges.L7
    obtain ⟨v0, p0, q0⟩ := apply_both s w
    obtain ⟨v1, p1, q1⟩ := apply_both s [1, w32 n0, 0]
    obtain ⟨v2, p2, q2⟩ := apply_both s [2, w32 n0, w32 n1]
    have s0 : (law34_BookChanges.l7 w s.m s.a s.l s.f s.t s.c0.x0 s.c0.x1 s.c0.x2 s.c0.x3 s.c0.x4 s.c0.x5 s.c0.x6 s.c0.x7 s.c0.x8 s.c0.x9 s.c0.x10 s.c1.x0 s.c1.x1 s.c1.x2 s.c1.x3 s.c1.x4 s.c1.x5 s.c1.x6 s.c1.x7 s.c1.x8 s.c1.x9 s.c1.x10 s.r s.g s.r2 s.g2 [1, w32 n0, 0] [2, w32 n0, w32 n1] 0).run = some (.inl 1) := by
      simp only [law34_BookChanges.l7]
      rw [bb_pos (by rfl), bb_neg (by rfl), bb_neg (by rfl), opt_some p0, opt_some q0, bb_neg (by simp only [beq_self_eq_true, Bool.true_and, Bool.and_true, Bool.not_true]), bb_neg (by simp), Tw.run_ret]
      rfl
    have s1 : (law34_BookChanges.l7 w s.m s.a s.l s.f s.t s.c0.x0 s.c0.x1 s.c0.x2 s.c0.x3 s.c0.x4 s.c0.x5 s.c0.x6 s.c0.x7 s.c0.x8 s.c0.x9 s.c0.x10 s.c1.x0 s.c1.x1 s.c1.x2 s.c1.x3 s.c1.x4 s.c1.x5 s.c1.x6 s.c1.x7 s.c1.x8 s.c1.x9 s.c1.x10 s.r s.g s.r2 s.g2 [1, w32 n0, 0] [2, w32 n0, w32 n1] 1).run = some (.inl 2) := by
      simp only [law34_BookChanges.l7]
      rw [bb_pos (by rfl), bb_pos (by rfl), bb_neg (by rfl), opt_some p1, opt_some q1, bb_neg (by simp only [beq_self_eq_true, Bool.true_and, Bool.and_true, Bool.not_true]), bb_neg (by simp), Tw.run_ret]
      rfl
    have s2 : (law34_BookChanges.l7 w s.m s.a s.l s.f s.t s.c0.x0 s.c0.x1 s.c0.x2 s.c0.x3 s.c0.x4 s.c0.x5 s.c0.x6 s.c0.x7 s.c0.x8 s.c0.x9 s.c0.x10 s.c1.x0 s.c1.x1 s.c1.x2 s.c1.x3 s.c1.x4 s.c1.x5 s.c1.x6 s.c1.x7 s.c1.x8 s.c1.x9 s.c1.x10 s.r s.g s.r2 s.g2 [1, w32 n0, 0] [2, w32 n0, w32 n1] 2).run = some (.inl 3) := by
      simp only [law34_BookChanges.l7]
      rw [bb_pos (by rfl), bb_neg (by rfl), bb_pos (by rfl), opt_some p2, opt_some q2, bb_neg (by simp only [beq_self_eq_true, Bool.true_and, Bool.and_true, Bool.not_true]), bb_neg (by simp), Tw.run_ret]
      rfl
    have s3 : (law34_BookChanges.l7 w s.m s.a s.l s.f s.t s.c0.x0 s.c0.x1 s.c0.x2 s.c0.x3 s.c0.x4 s.c0.x5 s.c0.x6 s.c0.x7 s.c0.x8 s.c0.x9 s.c0.x10 s.c1.x0 s.c1.x1 s.c1.x2 s.c1.x3 s.c1.x4 s.c1.x5 s.c1.x6 s.c1.x7 s.c1.x8 s.c1.x9 s.c1.x10 s.r s.g s.r2 s.g2 [1, w32 n0, 0] [2, w32 n0, w32 n1] 3).run = some (.inr (.inl ())) := by
      simp only [law34_BookChanges.l7]
      rw [bb_neg (by rfl), Tw.run_ret]
    exact (Lp_next s0).trans ((Lp_next s1).trans ((Lp_next s2).trans (Lp_end s3)))
  rw [decide_eq_true h, bb_neg (by rfl), opt_some (x := [1, w32 n0, 0]) (by rfl), opt_some (x := [2, w32 n0, w32 n1]) (by rfl), w32_mask, w32_mask, opt_some (same_lists (by exact (by decide : 3 ≤ 1000))), bb_neg (by simp), opt_some (same_lists (by exact (by decide : 3 ≤ 1000))), bb_neg (by simp), opt_some hL, sm_inl, opt_some awake34, Tw.run_ret]

theorem BookChanges (a0_0 : Int) (a0_1 : Int) (a0_2 : Int) (a0_3 : Bool) (a0_4 : Int) (a0_5_0_0 : Int) (a0_5_0_1 : Int) (a0_5_0_2 : Int) (a0_5_0_3_0 : Int) (a0_5_0_3_1 : Int) (a0_5_0_3_2 : Int) (a0_5_0_3_3 : Int) (a0_5_0_3_4 : Int) (a0_5_0_3_5 : Int) (a0_5_0_3_6 : Int) (a0_5_0_3_7 : Int) (a0_5_1_0 : Int) (a0_5_1_1 : Int) (a0_5_1_2 : Int) (a0_5_1_3_0 : Int) (a0_5_1_3_1 : Int) (a0_5_1_3_2 : Int) (a0_5_1_3_3 : Int) (a0_5_1_3_4 : Int) (a0_5_1_3_5 : Int) (a0_5_1_3_6 : Int) (a0_5_1_3_7 : Int) (a0_6 : Int) (a0_7 : Int) (a0_8 : Int) (a0_9 : Int) (a1 : List Int) (a2_0 : Int) (a2_1 : Int) (w0 : InR .i64 a0_0) (w1 : InR .i64 a0_1) (w2 : InR .i64 a0_2) (w3 : InR .i64 a0_4) (w4 : InR .i64 a0_5_0_0) (w5 : InR .i64 a0_5_0_1) (w6 : InR .i64 a0_5_0_2) (w7 : InR .u32 a0_5_0_3_0) (w8 : InR .u32 a0_5_0_3_1) (w9 : InR .u32 a0_5_0_3_2) (w10 : InR .u32 a0_5_0_3_3) (w11 : InR .u32 a0_5_0_3_4) (w12 : InR .u32 a0_5_0_3_5) (w13 : InR .u32 a0_5_0_3_6) (w14 : InR .u32 a0_5_0_3_7) (w15 : InR .i64 a0_5_1_0) (w16 : InR .i64 a0_5_1_1) (w17 : InR .i64 a0_5_1_2) (w18 : InR .u32 a0_5_1_3_0) (w19 : InR .u32 a0_5_1_3_1) (w20 : InR .u32 a0_5_1_3_2) (w21 : InR .u32 a0_5_1_3_3) (w22 : InR .u32 a0_5_1_3_4) (w23 : InR .u32 a0_5_1_3_5) (w24 : InR .u32 a0_5_1_3_6) (w25 : InR .u32 a0_5_1_3_7) (w26 : InR .i64 a0_6) (w27 : InR .i64 a0_7) (w28 : InR .i64 a0_8) (w29 : InR .i64 a0_9) (w30 : a1.length * 4 ≤ reachBytes) (w31 : ∀ x32 ∈ a1, InR .u32 x32) (w32 : InR .i64 a2_0) (w33 : InR .i64 a2_1) : law34_BookChanges.c a0_0 a0_1 a0_2 a0_3 a0_4 a0_5_0_0 a0_5_0_1 a0_5_0_2 a0_5_0_3_0 a0_5_0_3_1 a0_5_0_3_2 a0_5_0_3_3 a0_5_0_3_4 a0_5_0_3_5 a0_5_0_3_6 a0_5_0_3_7 a0_5_1_0 a0_5_1_1 a0_5_1_2 a0_5_1_3_0 a0_5_1_3_1 a0_5_1_3_2 a0_5_1_3_3 a0_5_1_3_4 a0_5_1_3_5 a0_5_1_3_6 a0_5_1_3_7 a0_6 a0_7 a0_8 a0_9 a1 a2_0 a2_1 = some true := by
  exact bookChanges ⟨a0_0, a0_1, a0_2, a0_3, a0_4, ⟨a0_5_0_0, a0_5_0_1, a0_5_0_2, a0_5_0_3_0, a0_5_0_3_1, a0_5_0_3_2, a0_5_0_3_3, a0_5_0_3_4, a0_5_0_3_5, a0_5_0_3_6, a0_5_0_3_7⟩, ⟨a0_5_1_0, a0_5_1_1, a0_5_1_2, a0_5_1_3_0, a0_5_1_3_1, a0_5_1_3_2, a0_5_1_3_3, a0_5_1_3_4, a0_5_1_3_5, a0_5_1_3_6, a0_5_1_3_7⟩, a0_6, a0_7, a0_8, a0_9⟩ a1 a2_0 a2_1

end Go.Proofs.Ytcnomgpbkimmeaa.Pure
