/- The plain truth of BookBack. -/
import Derived.Test.YtcnomgpbkimmeaaFlaw34
import Derived.Test.YtcnomgpbkimmeaaFlaw34BookBack
import Derived.Test.YtcnomgpbkimmeaaQBook
namespace Go.Proofs.Ytcnomgpbkimmeaa.Pure
open Go Go.Proofs.Ytcnomgpbkimmeaa.Va
set_option linter.unusedVariables false
set_option linter.unusedSimpArgs false

theorem same_lists {a b : List Int} (ha : a.length ≤ 1000) : ref01_Same.c a b = some (decide (a = b)) := ref01_Same_eq (by omega)
theorem layB_len (s : SA) : (layB s).length ≤ 1000 := by show 26 ≤ 1000; decide
theorem sa_beq (s t : SA) : (s.m == t.m && (s.a == t.a && (s.l == t.l && (s.f == t.f && (s.t == t.t && (s.c0.x0 == t.c0.x0 && (s.c0.x1 == t.c0.x1 && (s.c0.x2 == t.c0.x2 && (s.c0.x3 == t.c0.x3 && (s.c0.x4 == t.c0.x4 && (s.c0.x5 == t.c0.x5 && (s.c0.x6 == t.c0.x6 && (s.c0.x7 == t.c0.x7 && (s.c0.x8 == t.c0.x8 && (s.c0.x9 == t.c0.x9 && (s.c0.x10 == t.c0.x10 && (s.c1.x0 == t.c1.x0 && (s.c1.x1 == t.c1.x1 && (s.c1.x2 == t.c1.x2 && (s.c1.x3 == t.c1.x3 && (s.c1.x4 == t.c1.x4 && (s.c1.x5 == t.c1.x5 && (s.c1.x6 == t.c1.x6 && (s.c1.x7 == t.c1.x7 && (s.c1.x8 == t.c1.x8 && (s.c1.x9 == t.c1.x9 && (s.c1.x10 == t.c1.x10 && (s.r == t.r && (s.g == t.g && (s.r2 == t.r2 && (s.g2 == t.g2 && true))))))))))))))))))))))))))))))) = true ↔ s = t := by
  simp only [Bool.and_eq_true, beq_iff_eq, and_true]
  obtain ⟨m, a, l, f, t', ⟨x0, x1, x2, x3, x4, x5, x6, x7, x8, x9, x10⟩, ⟨y0, y1, y2, y3, y4, y5, y6, y7, y8, y9, y10⟩, r, g, r2, g2⟩ := s
  obtain ⟨m', a', l', f', t'', ⟨x0', x1', x2', x3', x4', x5', x6', x7', x8', x9', x10'⟩, ⟨y0', y1', y2', y3', y4', y5', y6', y7', y8', y9', y10'⟩, r', g', r2', g2'⟩ := t
  simp only [SA.mk.injEq, Cd.mk.injEq]
  constructor
  · intro h
    simp only [h, and_self]
  · intro h
    simp only [h, and_self]
theorem bookBack (s t : SA) (h0 : CdW s.c0) (h1 : CdW s.c1) (g0 : CdW t.c0) (g1 : CdW t.c1) : law34_BookBack.c s.m s.a s.l s.f s.t s.c0.x0 s.c0.x1 s.c0.x2 s.c0.x3 s.c0.x4 s.c0.x5 s.c0.x6 s.c0.x7 s.c0.x8 s.c0.x9 s.c0.x10 s.c1.x0 s.c1.x1 s.c1.x2 s.c1.x3 s.c1.x4 s.c1.x5 s.c1.x6 s.c1.x7 s.c1.x8 s.c1.x9 s.c1.x10 s.r s.g s.r2 s.g2 t.m t.a t.l t.f t.t t.c0.x0 t.c0.x1 t.c0.x2 t.c0.x3 t.c0.x4 t.c0.x5 t.c0.x6 t.c0.x7 t.c0.x8 t.c0.x9 t.c0.x10 t.c1.x0 t.c1.x1 t.c1.x2 t.c1.x3 t.c1.x4 t.c1.x5 t.c1.x6 t.c1.x7 t.c1.x8 t.c1.x9 t.c1.x10 t.r t.g t.r2 t.g2 = some true := by
  simp only [law34_BookBack.c, law34_BookBack.t]
  rw [opt_some (book_Lay_eq s), opt_some (book_Lay_eq t)]
  by_cases hs : RightS s
  rotate_left
  · rw [if_neg hs, bb_pos (by rfl), opt_some awake34, Tw.run_ret]
  rw [if_pos hs, bb_neg (by rfl)]
  by_cases ht : RightS t
  rotate_left
  · rw [if_neg ht, bb_pos (by rfl), opt_some awake34, Tw.run_ret]
  have e1 := take_lay hs h0 h1
  have e2 := take_lay ht g0 g1
  rw [if_pos ht, bb_neg (by rfl), opt_some e1, bb_pos (by exact (sa_beq s s).2 rfl), bb_pos (by rfl), opt_some (same_lists (layB_len s))]
  rw [bb_pos ?_, opt_some awake34, Tw.run_ret]
  rw [beq_iff_eq, Bool.eq_iff_iff, decide_eq_true_iff]
  refine Iff.trans ?_ (sa_beq s t).symm
  constructor
  · intro h
    have h : layB s = layB t := h
    rw [h, e2] at e1
    exact (out_ext (Option.some.inj e1)).symm
  · rintro rfl
    rfl

theorem BookBack (a0_0 : Int) (a0_1 : Int) (a0_2 : Int) (a0_3 : Bool) (a0_4 : Int) (a0_5_0_0 : Int) (a0_5_0_1 : Int) (a0_5_0_2 : Int) (a0_5_0_3_0 : Int) (a0_5_0_3_1 : Int) (a0_5_0_3_2 : Int) (a0_5_0_3_3 : Int) (a0_5_0_3_4 : Int) (a0_5_0_3_5 : Int) (a0_5_0_3_6 : Int) (a0_5_0_3_7 : Int) (a0_5_1_0 : Int) (a0_5_1_1 : Int) (a0_5_1_2 : Int) (a0_5_1_3_0 : Int) (a0_5_1_3_1 : Int) (a0_5_1_3_2 : Int) (a0_5_1_3_3 : Int) (a0_5_1_3_4 : Int) (a0_5_1_3_5 : Int) (a0_5_1_3_6 : Int) (a0_5_1_3_7 : Int) (a0_6 : Int) (a0_7 : Int) (a0_8 : Int) (a0_9 : Int) (a1_0 : Int) (a1_1 : Int) (a1_2 : Int) (a1_3 : Bool) (a1_4 : Int) (a1_5_0_0 : Int) (a1_5_0_1 : Int) (a1_5_0_2 : Int) (a1_5_0_3_0 : Int) (a1_5_0_3_1 : Int) (a1_5_0_3_2 : Int) (a1_5_0_3_3 : Int) (a1_5_0_3_4 : Int) (a1_5_0_3_5 : Int) (a1_5_0_3_6 : Int) (a1_5_0_3_7 : Int) (a1_5_1_0 : Int) (a1_5_1_1 : Int) (a1_5_1_2 : Int) (a1_5_1_3_0 : Int) (a1_5_1_3_1 : Int) (a1_5_1_3_2 : Int) (a1_5_1_3_3 : Int) (a1_5_1_3_4 : Int) (a1_5_1_3_5 : Int) (a1_5_1_3_6 : Int) (a1_5_1_3_7 : Int) (a1_6 : Int) (a1_7 : Int) (a1_8 : Int) (a1_9 : Int) (w0 : InR .i64 a0_0) (w1 : InR .i64 a0_1) (w2 : InR .i64 a0_2) (w3 : InR .i64 a0_4) (w4 : InR .i64 a0_5_0_0) (w5 : InR .i64 a0_5_0_1) (w6 : InR .i64 a0_5_0_2) (w7 : InR .u32 a0_5_0_3_0) (w8 : InR .u32 a0_5_0_3_1) (w9 : InR .u32 a0_5_0_3_2) (w10 : InR .u32 a0_5_0_3_3) (w11 : InR .u32 a0_5_0_3_4) (w12 : InR .u32 a0_5_0_3_5) (w13 : InR .u32 a0_5_0_3_6) (w14 : InR .u32 a0_5_0_3_7) (w15 : InR .i64 a0_5_1_0) (w16 : InR .i64 a0_5_1_1) (w17 : InR .i64 a0_5_1_2) (w18 : InR .u32 a0_5_1_3_0) (w19 : InR .u32 a0_5_1_3_1) (w20 : InR .u32 a0_5_1_3_2) (w21 : InR .u32 a0_5_1_3_3) (w22 : InR .u32 a0_5_1_3_4) (w23 : InR .u32 a0_5_1_3_5) (w24 : InR .u32 a0_5_1_3_6) (w25 : InR .u32 a0_5_1_3_7) (w26 : InR .i64 a0_6) (w27 : InR .i64 a0_7) (w28 : InR .i64 a0_8) (w29 : InR .i64 a0_9) (w30 : InR .i64 a1_0) (w31 : InR .i64 a1_1) (w32 : InR .i64 a1_2) (w33 : InR .i64 a1_4) (w34 : InR .i64 a1_5_0_0) (w35 : InR .i64 a1_5_0_1) (w36 : InR .i64 a1_5_0_2) (w37 : InR .u32 a1_5_0_3_0) (w38 : InR .u32 a1_5_0_3_1) (w39 : InR .u32 a1_5_0_3_2) (w40 : InR .u32 a1_5_0_3_3) (w41 : InR .u32 a1_5_0_3_4) (w42 : InR .u32 a1_5_0_3_5) (w43 : InR .u32 a1_5_0_3_6) (w44 : InR .u32 a1_5_0_3_7) (w45 : InR .i64 a1_5_1_0) (w46 : InR .i64 a1_5_1_1) (w47 : InR .i64 a1_5_1_2) (w48 : InR .u32 a1_5_1_3_0) (w49 : InR .u32 a1_5_1_3_1) (w50 : InR .u32 a1_5_1_3_2) (w51 : InR .u32 a1_5_1_3_3) (w52 : InR .u32 a1_5_1_3_4) (w53 : InR .u32 a1_5_1_3_5) (w54 : InR .u32 a1_5_1_3_6) (w55 : InR .u32 a1_5_1_3_7) (w56 : InR .i64 a1_6) (w57 : InR .i64 a1_7) (w58 : InR .i64 a1_8) (w59 : InR .i64 a1_9) : law34_BookBack.c a0_0 a0_1 a0_2 a0_3 a0_4 a0_5_0_0 a0_5_0_1 a0_5_0_2 a0_5_0_3_0 a0_5_0_3_1 a0_5_0_3_2 a0_5_0_3_3 a0_5_0_3_4 a0_5_0_3_5 a0_5_0_3_6 a0_5_0_3_7 a0_5_1_0 a0_5_1_1 a0_5_1_2 a0_5_1_3_0 a0_5_1_3_1 a0_5_1_3_2 a0_5_1_3_3 a0_5_1_3_4 a0_5_1_3_5 a0_5_1_3_6 a0_5_1_3_7 a0_6 a0_7 a0_8 a0_9 a1_0 a1_1 a1_2 a1_3 a1_4 a1_5_0_0 a1_5_0_1 a1_5_0_2 a1_5_0_3_0 a1_5_0_3_1 a1_5_0_3_2 a1_5_0_3_3 a1_5_0_3_4 a1_5_0_3_5 a1_5_0_3_6 a1_5_0_3_7 a1_5_1_0 a1_5_1_1 a1_5_1_2 a1_5_1_3_0 a1_5_1_3_1 a1_5_1_3_2 a1_5_1_3_3 a1_5_1_3_4 a1_5_1_3_5 a1_5_1_3_6 a1_5_1_3_7 a1_6 a1_7 a1_8 a1_9 = some true := by
  exact bookBack ⟨a0_0, a0_1, a0_2, a0_3, a0_4, ⟨a0_5_0_0, a0_5_0_1, a0_5_0_2, a0_5_0_3_0, a0_5_0_3_1, a0_5_0_3_2, a0_5_0_3_3, a0_5_0_3_4, a0_5_0_3_5, a0_5_0_3_6, a0_5_0_3_7⟩, ⟨a0_5_1_0, a0_5_1_1, a0_5_1_2, a0_5_1_3_0, a0_5_1_3_1, a0_5_1_3_2, a0_5_1_3_3, a0_5_1_3_4, a0_5_1_3_5, a0_5_1_3_6, a0_5_1_3_7⟩, a0_6, a0_7, a0_8, a0_9⟩ ⟨a1_0, a1_1, a1_2, a1_3, a1_4, ⟨a1_5_0_0, a1_5_0_1, a1_5_0_2, a1_5_0_3_0, a1_5_0_3_1, a1_5_0_3_2, a1_5_0_3_3, a1_5_0_3_4, a1_5_0_3_5, a1_5_0_3_6, a1_5_0_3_7⟩, ⟨a1_5_1_0, a1_5_1_1, a1_5_1_2, a1_5_1_3_0, a1_5_1_3_1, a1_5_1_3_2, a1_5_1_3_3, a1_5_1_3_4, a1_5_1_3_5, a1_5_1_3_6, a1_5_1_3_7⟩, a1_6, a1_7, a1_8, a1_9⟩ ⟨w7, w8, w9, w10, w11, w12, w13, w14⟩ ⟨w18, w19, w20, w21, w22, w23, w24, w25⟩ ⟨w37, w38, w39, w40, w41, w42, w43, w44⟩ ⟨w48, w49, w50, w51, w52, w53, w54, w55⟩

end Go.Proofs.Ytcnomgpbkimmeaa.Pure
