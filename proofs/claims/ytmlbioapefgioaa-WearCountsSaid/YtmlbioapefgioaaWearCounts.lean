/- MASKED. The plain truth of WearCounts. -/
import Derived.Test.YtmlbioapefgioaaFlaw43WearCounts
import Derived.Test.YtmlbioapefgioaaQWear2
import Derived.Test.YtmlbioapefgioaaQFloat
import Derived.Test.YtmlbioapefgioaaQDrive3
namespace Go.Proofs.Ytmlbioapefgioaa.Pure
open Go Go.Proofs.Ytmlbioapefgioaa.Va
set_option linter.unusedVariables false
set_option linter.unusedSimpArgs false

/-- The least is at most the mean, and that at most the greatest. -/
theorem kst_lm {n1 : Nat} {V : List Int} (hV : ∀ i, 0 ≤ V.getD i 0) (k : Int) : ∀ i : Nat, 0 ≤ (kst n1 V k i).l ∧ (kst n1 V k i).l * ((kst n1 V k i).n : Int) ≤ (kst n1 V k i).a ∧ (kst n1 V k i).a ≤ (kst n1 V k i).m * ((kst n1 V k i).n : Int) ∧ 0 ≤ (kst n1 V k i).m
  | 0 => by simp [kst]
  | i + 1 => by
    obtain ⟨h1, h2, h3, h4⟩ := kst_lm (n1 := n1) hV k i
    have hv := hV i
    simp only [kst, kstep]
    generalize kst n1 V k i = p at *
    generalize V.getD i 0 = v at *
    split
    · have e : ((p.n + 1 : Nat) : Int) = (p.n : Int) + 1 := by omega
      simp only [e, Int.mul_add, Int.mul_one]
      have hn : (0 : Int) ≤ (p.n : Int) := by omega
      have c1 : (if p.n = 0 ∨ v < p.l then v else p.l) * (p.n : Int) ≤ p.a ∧ (if p.n = 0 ∨ v < p.l then v else p.l) ≤ v ∧ 0 ≤ (if p.n = 0 ∨ v < p.l then v else p.l) := by
        by_cases hc : p.n = 0 ∨ v < p.l
        · rw [if_pos hc]
          refine ⟨?_, by omega, hv⟩
          rcases hc with hc | hc
          · rw [hc] at h2 ⊢
            simpa using h2
          · exact Int.le_trans (Int.mul_le_mul_of_nonneg_right (by omega) hn) h2
        · rw [if_neg hc]
          exact ⟨h2, by omega, h1⟩
      have c2 : p.a ≤ imax p.m v * (p.n : Int) ∧ v ≤ imax p.m v ∧ 0 ≤ imax p.m v := by
        have hm : p.m ≤ imax p.m v ∧ v ≤ imax p.m v := by unfold imax; split <;> omega
        exact ⟨Int.le_trans h3 (Int.mul_le_mul_of_nonneg_right hm.1 hn), hm.2, by omega⟩
      omega
    · exact ⟨h1, h2, h3, h4⟩

/-- A kind's mean lies between its least and its greatest. -/
theorem mean_ok {p : Kst} {q : Nat} (hq : p.n = q) (q1 : 1 ≤ q) (q2 : q ≤ 1000) (h : 0 ≤ p.l ∧ p.l * (p.n : Int) ≤ p.a ∧ p.a ≤ p.m * (p.n : Int) ∧ 0 ≤ p.m) (ha : 0 ≤ p.a ∧ p.a ≤ 1000) (hl : p.l ≤ 1000) (hm : p.m ≤ 1000) :
    ∃ r, Ieee.Format.div (FloatKind.format .f64) (FloatKind.nearest .f64 p.a) (FloatKind.nearest .f64 (q : Int)) = some r ∧ (Ieee.Format.order (FloatKind.format .f64) (FloatKind.nearest .f64 p.l) r == some .gt) = false ∧ (Ieee.Format.order (FloatKind.format .f64) r (FloatKind.nearest .f64 p.m) == some .gt) = false := by
  obtain ⟨h1, h2, h3, h4⟩ := h
  obtain ⟨a, ea⟩ := Int.eq_ofNat_of_zero_le ha.1
  obtain ⟨l, el⟩ := Int.eq_ofNat_of_zero_le h1
  obtain ⟨m, em⟩ := Int.eq_ofNat_of_zero_le h4
  rw [hq, el, ea] at h2
  rw [hq, em, ea] at h3
  obtain ⟨r, v, d, hv, c1, c2, _⟩ := fquo_fval (c := a) (b := q) (by omega) q1 q2
  have sm : ∀ x : Nat, x ≤ 1000 → x.log2 ≤ 52 := fun x hx => by
    by_cases h0 : x = 0
    · subst h0; decide
    · have := log_small h0 hx; omega
  have hl' := fint_val (c := l) (sm l (by omega))
  have hm' := fint_val (c := m) (sm m (by omega))
  rw [ea, el, em]
  refine ⟨r, d, (order_fval hl' hv).1 (c1 l ?_), (order_fval hv hm').1 (c2 m ?_)⟩
  · have h2 : ((l * q : Nat) : Int) ≤ (a : Int) := by rw [Int.natCast_mul]; exact h2
    omega
  · have h3 : (a : Int) ≤ ((m * q : Nat) : Int) := by rw [Int.natCast_mul]; exact h3
    omega

section
variable {n : Nat} {n1 n2 : Nat} {g3 g4 g5 : Int} (hr : GeoR (n : Int) (n1 : Int) (n2 : Int) g3 g4 g5) (ok : GeoOK (n : Int) (n1 : Int) (n2 : Int) g3 g4 g5)
theorem counts_loop {l : List Int} (hl : l.length ≤ 300) {m : Nat} (hm : 1 ≤ m) (hm' : m ≤ 512) (a0 a1 a2 a3 a4 a5 : Int) : ∀ (k i : Nat) (s : Fl), k + i = l.length → Er n m i s →
    ∃ s', Er n m l.length s' ∧ law43_WearCounts.L8 l (m : Int) (i : Int) a0 a1 a2 a3 a4 a5 (n : Int) s.C s.D s.A s.W s.V [] = some (s'.C, s'.D, s'.A, s'.W, s'.V)
  | 0, i, s, h, hE => by
    have e : i = l.length := by omega
    subst e
    refine ⟨s, hE, Lp_end ?_⟩
    simp only [law43_WearCounts.l8]
    rw [bb_neg (decide_eq_false (by omega))]
    rfl
  | k + 1, i, s, h, hE => by
    have hi : i < l.length := by omega
    have e1 : w64 ((i : Int) + 1) = ((i + 1 : Nat) : Int) := by rw [w64_of (by omega) (by omega)]; omega
    obtain ⟨j, j1, j2, j3⟩ := pick43 l[i] hm (show m ≤ 1000 by omega)
    obtain ⟨_, t2, t3⟩ := hE.step j1 (show i ≤ 1000 by omega)
    have hEr := flash_Erase_eq hE.ok (j : Int)
    rw [hE.m0] at hEr
    obtain ⟨s', p1, p2⟩ := counts_loop hl hm hm' a0 a1 a2 a3 a4 a5 k (i + 1) (s.erase n (j : Int)).2 (by omega) t2
    refine ⟨s', p1, (Lp_next (s' := (((i + 1 : Nat) : Int), (s.erase n (j : Int)).2.C, (s.erase n (j : Int)).2.D, (s.erase n (j : Int)).2.A, (s.erase n (j : Int)).2.W, (s.erase n (j : Int)).2.V)) ?_).trans p2⟩
    simp only [law43_WearCounts.l8]
    rw [bb_pos (decide_eq_true (by omega)), dd_pos (by omega), Int.toNat_natCast, opt_some (List.getElem?_eq_getElem hi), dd_neg j3, j2, opt_some (by exact hEr), Tw.run_ret, e1]
include hr ok
theorem counts_L15 {p0 p1 p2 p3 : Kst} {r0 r1 r2 r3 f0 f1 f2 f3 s1 s2 s3 s4 : Nat} (ha : (0 ≤ p0.a ∧ p0.a ≤ 1000) ∧ (0 ≤ p1.a ∧ p1.a ≤ 1000) ∧ (0 ≤ p2.a ∧ p2.a ≤ 1000) ∧ (0 ≤ p3.a ∧ p3.a ≤ 1000))
    (m0 : Ieee.Format.div (FloatKind.format .f64) (FloatKind.nearest .f64 p0.a) (FloatKind.nearest .f64 (manyK n1 0 (2 + 2 * n1 + n2) : Int)) = some r0 ∧ (Ieee.Format.order (FloatKind.format .f64) (FloatKind.nearest .f64 p0.l) r0 == some .gt) = false ∧ (Ieee.Format.order (FloatKind.format .f64) r0 (FloatKind.nearest .f64 p0.m) == some .gt) = false)
    (m1 : Ieee.Format.div (FloatKind.format .f64) (FloatKind.nearest .f64 p1.a) (FloatKind.nearest .f64 (manyK n1 1 (2 + 2 * n1 + n2) : Int)) = some r1 ∧ (Ieee.Format.order (FloatKind.format .f64) (FloatKind.nearest .f64 p1.l) r1 == some .gt) = false ∧ (Ieee.Format.order (FloatKind.format .f64) r1 (FloatKind.nearest .f64 p1.m) == some .gt) = false)
    (m2 : Ieee.Format.div (FloatKind.format .f64) (FloatKind.nearest .f64 p2.a) (FloatKind.nearest .f64 (manyK n1 2 (2 + 2 * n1 + n2) : Int)) = some r2 ∧ (Ieee.Format.order (FloatKind.format .f64) (FloatKind.nearest .f64 p2.l) r2 == some .gt) = false ∧ (Ieee.Format.order (FloatKind.format .f64) r2 (FloatKind.nearest .f64 p2.m) == some .gt) = false)
    (m3 : Ieee.Format.div (FloatKind.format .f64) (FloatKind.nearest .f64 p3.a) (FloatKind.nearest .f64 (manyK n1 3 (2 + 2 * n1 + n2) : Int)) = some r3 ∧ (Ieee.Format.order (FloatKind.format .f64) (FloatKind.nearest .f64 p3.l) r3 == some .gt) = false ∧ (Ieee.Format.order (FloatKind.format .f64) r3 (FloatKind.nearest .f64 p3.m) == some .gt) = false)
    (hS0 : wear_Share.c p0.l p0.m p0.a p1.l p1.m p1.a p2.l p2.m p2.a p3.l p3.m p3.a 0 = some f0) (hS1 : wear_Share.c p0.l p0.m p0.a p1.l p1.m p1.a p2.l p2.m p2.a p3.l p3.m p3.a 1 = some f1)
    (hS2 : wear_Share.c p0.l p0.m p0.a p1.l p1.m p1.a p2.l p2.m p2.a p3.l p3.m p3.a 2 = some f2) (hS3 : wear_Share.c p0.l p0.m p0.a p1.l p1.m p1.a p2.l p2.m p2.a p3.l p3.m p3.a 3 = some f3)
    (hA1 : Ieee.Format.add (FloatKind.format .f64) 0 f0 = some s1) (hA2 : Ieee.Format.add (FloatKind.format .f64) s1 f1 = some s2) (hA3 : Ieee.Format.add (FloatKind.format .f64) s2 f2 = some s3) (hA4 : Ieee.Format.add (FloatKind.format .f64) s3 f3 = some s4) (l : List Int) (h : Int) :
    law43_WearCounts.L15 l h 0 0 0 (n : Int) (n1 : Int) (n2 : Int) g3 g4 g5 p0.l p0.m p0.a p1.l p1.m p1.a p2.l p2.m p2.a p3.l p3.m p3.a = some (.inl (p0.a + p1.a + p2.a + p3.a, s4)) := by
  have hM := fun (k : Int) hk => wear_Mean_eq hr ok (k := k) hk (p0.l, p0.m, p0.a, p1.l, p1.m, p1.a, p2.l, p2.m, p2.a, p3.l, p3.m, p3.a)
  simp only at hM
  have M0 := (hM 0 (by decide)).trans (by exact m0.1)
  have M1 := (hM 1 (by decide)).trans (by exact m1.1)
  have M2 := (hM 2 (by decide)).trans (by exact m2.1)
  have M3 := (hM 3 (by decide)).trans (by exact m3.1)
  clear hM
  have e0 : w64 (0 + p0.a) = p0.a := by rw [w64_of (by omega) (by omega)]; omega
  have e1 : w64 (p0.a + p1.a) = p0.a + p1.a := w64_of (by omega) (by omega)
  have e2 : w64 (p0.a + p1.a + p2.a) = p0.a + p1.a + p2.a := w64_of (by omega) (by omega)
  have e3 : w64 (p0.a + p1.a + p2.a + p3.a) = p0.a + p1.a + p2.a + p3.a := w64_of (by omega) (by omega)
  have k0 : w64 (0 + 1) = 1 := by rw [w64_of (by omega) (by omega)]; rfl
  have k1 : w64 (1 + 1) = 2 := by rw [w64_of (by omega) (by omega)]; rfl
  have k2 : w64 (2 + 1) = 3 := by rw [w64_of (by omega) (by omega)]; rfl
  have k3 : w64 (3 + 1) = 4 := by rw [w64_of (by omega) (by omega)]; rfl
  refine (Lp_next (s' := (p0.a, s1, 1)) ?_).trans ((Lp_next (s' := (p0.a + p1.a, s2, 2)) ?_).trans ((Lp_next (s' := (p0.a + p1.a + p2.a, s3, 3)) ?_).trans ((Lp_next (s' := (p0.a + p1.a + p2.a + p3.a, s4, 4)) ?_).trans (Lp_end ?_))))
  all_goals simp only [law43_WearCounts.l15]
  · rw [bb_pos (by rfl), opt_some M0]
    repeat' first | rw [dd_pos (by rfl)] | rw [dd_neg (by simp; done)]
    rw [opt_some hS0, opt_some hA1]
    repeat' first | rw [dd_pos (by rfl)] | rw [dd_neg (by simp; done)]
    rw [bb_neg m0.2.1]
    repeat' first | rw [dd_pos (by rfl)] | rw [dd_neg (by simp; done)]
    rw [bb_neg m0.2.2, Tw.run_ret, e0, k0]
  · rw [bb_pos (by rfl), opt_some M1]
    repeat' first | rw [dd_pos (by rfl)] | rw [dd_neg (by simp; done)]
    rw [opt_some hS1, opt_some hA2]
    repeat' first | rw [dd_pos (by rfl)] | rw [dd_neg (by simp; done)]
    rw [bb_neg m1.2.1]
    repeat' first | rw [dd_pos (by rfl)] | rw [dd_neg (by simp; done)]
    rw [bb_neg m1.2.2, Tw.run_ret, e1, k1]
  · rw [bb_pos (by rfl), opt_some M2]
    repeat' first | rw [dd_pos (by rfl)] | rw [dd_neg (by simp; done)]
    rw [opt_some hS2, opt_some hA3]
    repeat' first | rw [dd_pos (by rfl)] | rw [dd_neg (by simp; done)]
    rw [bb_neg m2.2.1]
    repeat' first | rw [dd_pos (by rfl)] | rw [dd_neg (by simp; done)]
    rw [bb_neg m2.2.2, Tw.run_ret, e2, k2]
  · rw [bb_pos (by rfl), opt_some M3]
    repeat' first | rw [dd_pos (by rfl)] | rw [dd_neg (by simp; done)]
    rw [opt_some hS3, opt_some hA4]
    repeat' first | rw [dd_pos (by rfl)] | rw [dd_neg (by simp; done)]
    rw [bb_neg m3.2.1]
    repeat' first | rw [dd_pos (by rfl)] | rw [dd_neg (by simp; done)]
    rw [bb_neg m3.2.2, Tw.run_ret, e3, k3]
  · rw [bb_neg (by rfl), Tw.run_ret]
end

/-! The sum of the shares. -/
theorem shares_ok {a0 a1 a2 a3 N : Nat} (hN : a0 + a1 + a2 + a3 = N) (h1 : 1 ≤ N) (h2 : N ≤ 1000) : ∃ f0 f1 f2 f3 s1 s2 s3 s4 : Nat,
    Ieee.Format.div (FloatKind.format .f64) (FloatKind.nearest .f64 (a0 : Int)) (FloatKind.nearest .f64 (N : Int)) = some f0 ∧ Ieee.Format.div (FloatKind.format .f64) (FloatKind.nearest .f64 (a1 : Int)) (FloatKind.nearest .f64 (N : Int)) = some f1 ∧
    Ieee.Format.div (FloatKind.format .f64) (FloatKind.nearest .f64 (a2 : Int)) (FloatKind.nearest .f64 (N : Int)) = some f2 ∧ Ieee.Format.div (FloatKind.format .f64) (FloatKind.nearest .f64 (a3 : Int)) (FloatKind.nearest .f64 (N : Int)) = some f3 ∧
    Ieee.Format.add (FloatKind.format .f64) 0 f0 = some s1 ∧ Ieee.Format.add (FloatKind.format .f64) s1 f1 = some s2 ∧ Ieee.Format.add (FloatKind.format .f64) s2 f2 = some s3 ∧ Ieee.Format.add (FloatKind.format .f64) s3 f3 = some s4 ∧
    (Ieee.Format.order (FloatKind.format .f64) s4 4607173411600762667 == some .gt) = true ∧ (Ieee.Format.order (FloatKind.format .f64) s4 4607186922399644778 == some .lt) = true := by
  obtain ⟨f0, v0, d0, w0, _, u0, x0, y0⟩ := fquo_fval (c := a0) (b := N) (by omega) h1 h2
  obtain ⟨f1, v1, d1, w1, _, u1, x1, y1⟩ := fquo_fval (c := a1) (b := N) (by omega) h1 h2
  obtain ⟨f2, v2, d2, w2, _, u2, x2, y2⟩ := fquo_fval (c := a2) (b := N) (by omega) h1 h2
  obtain ⟨f3, v3, d3, w3, _, u3, x3, y3⟩ := fquo_fval (c := a3) (b := N) (by omega) h1 h2
  have b0 := u0 1 (by omega)
  have b1 := u1 1 (by omega)
  have b2 := u2 1 (by omega)
  have b3 := u3 1 (by omega)
  obtain ⟨U, hU⟩ : ∃ U, U = U64 := ⟨_, rfl⟩
  rw [← hU] at b0 b1 b2 b3 x0 x1 x2 x3 y0 y1 y2 y3
  obtain ⟨Q, hQ, hUQ, q1, q2⟩ := U64_q hU
  have fa : ∀ {x y vx vy : Nat}, FVal x vx → FVal y vy → vx + vy ≤ 64 * U → ∃ z v, Ieee.Format.add (FloatKind.format .f64) x y = some z ∧ FVal z v ∧ 9007199254740992 * v ≤ 9007199254740992 * (vx + vy) + (vx + vy) ∧ 9007199254740992 * (vx + vy) ≤ 9007199254740992 * v + (vx + vy) := fun hx hy hb => fadd_u hU hx hy hb
  clear u0 u1 u2 u3 hU
  have hs : 1125899906842624 * (v0 + v1 + v2 + v3) ≤ 1125899906842624 * U + U ∧ 1125899906842624 * U ≤ 1125899906842624 * (v0 + v1 + v2 + v3) + U := by
    have hsum : a0 * U + a1 * U + a2 * U + a3 * U = N * U := by rw [← hN, Nat.add_mul, Nat.add_mul, Nat.add_mul]
    have hv : N * (v0 + v1 + v2 + v3) = N * v0 + N * v1 + N * v2 + N * v3 := by rw [Nat.mul_add, Nat.mul_add, Nat.mul_add]
    have k1 : N * (1125899906842624 * (v0 + v1 + v2 + v3)) ≤ N * (1125899906842624 * U + U) := by
      rw [Nat.mul_add N, Nat.mul_left_comm N 1125899906842624 U, Nat.mul_left_comm N 1125899906842624 (v0 + v1 + v2 + v3), hv]
      omega
    have k2 : N * (1125899906842624 * U) ≤ N * (1125899906842624 * (v0 + v1 + v2 + v3) + U) := by
      rw [Nat.mul_add N, Nat.mul_left_comm N 1125899906842624 U, Nat.mul_left_comm N 1125899906842624 (v0 + v1 + v2 + v3), hv]
      omega
    exact ⟨Nat.le_of_mul_le_mul_left k1 (by omega), Nat.le_of_mul_le_mul_left k2 (by omega)⟩
  clear x0 x1 x2 x3 y0 y1 y2 y3
  obtain ⟨s1, t1, e1, z1, g1, g1'⟩ := fa FVal.zero w0 (by omega)
  obtain ⟨s2, t2, e2, z2, g2, g2'⟩ := fa z1 w1 (by omega)
  obtain ⟨s3, t3, e3, z3, g3, g3'⟩ := fa z2 w2 (by omega)
  obtain ⟨s4, t4, e4, z4, g4, g4'⟩ := fa z3 w3 (by omega)
  exact ⟨f0, f1, f2, f3, s1, s2, s3, s4, d0, d1, d2, d3, e1, e2, e3, e4, (order_fval z4 q1).2.2 (by omega), (order_fval z4 q2).2.1 (by omega)⟩

theorem WearCounts (a0_0 : Int) (a0_1 : Int) (a0_2 : Int) (a0_3 : Int) (a0_4 : Int) (a0_5 : Int) (a1 : List Int) (w0 : InR .i64 a0_0) (w1 : InR .i64 a0_1) (w2 : InR .i64 a0_2) (w3 : InR .i64 a0_3) (w4 : InR .i64 a0_4) (w5 : InR .i64 a0_5) (w6 : a1.length * 8 ≤ reachBytes) (w7 : ∀ x8 ∈ a1, InR .i64 x8) : law43_WearCounts.c a0_0 a0_1 a0_2 a0_3 a0_4 a0_5 a1 = some true := by
  have hr : GeoR a0_0 a0_1 a0_2 a0_3 a0_4 a0_5 := ⟨w0, w1, w2, w3, w4, w5⟩
  obtain ⟨bs, hsm, hok⟩ := ref08_Small_eq hr
  simp only [law43_WearCounts.c, law43_WearCounts.t]
  by_cases hl : (a1.length : Int) > 300
  · rw [bb_pos (decide_eq_true hl), opt_some awake43, Tw.run_ret]
  rw [bb_neg (decide_eq_false hl), opt_some hsm]
  cases bs with
  | false => rw [bb_pos (by rfl), opt_some awake43, Tw.run_ret]
  | true =>
  have ok := hok rfl
  have ok' := ok
  unfold GeoOK at ok'
  obtain ⟨n, rfl⟩ : ∃ n : Nat, a0_0 = (n : Int) := ⟨a0_0.toNat, by omega⟩
  obtain ⟨n1, rfl⟩ : ∃ n1 : Nat, a0_1 = (n1 : Int) := ⟨a0_1.toNat, by omega⟩
  obtain ⟨n2, rfl⟩ : ∃ n2 : Nat, a0_2 = (n2 : Int) := ⟨a0_2.toNat, by omega⟩
  have hmap : ref08_Map.c (n : Int) (n1 : Int) (n2 : Int) a0_3 a0_4 a0_5 = some (mapL n1 (2 + 2 * n1 + n2)) := (ref08_Map_eq hr).trans (by rw [if_pos ok]; rfl)
  have hN := flash_New_eqM (a := 2 + 2 * n1 + n2) (b := n) (by omega) (by omega) (by omega) (by omega)
  have E0 := Er.new (n := n) (m := 2 + 2 * n1 + n2) (by omega) (by omega) (by omega) (by omega)
  obtain ⟨s', p1, p2⟩ := counts_loop (show a1.length ≤ 300 by omega) (m := 2 + 2 * n1 + n2) (by omega) (by omega) (n : Int) (n1 : Int) (n2 : Int) a0_3 a0_4 a0_5 a1.length 0 (flNew (2 + 2 * n1 + n2) n) (by omega) E0
  have hO := wear_Of_eq hr ok (by rw [p1.l]) (p1.v1000 (by omega))
  rw [p1.m0] at hO
  obtain ⟨q0, q1, q2, q3⟩ := p1.small (by omega) n1
  have hsum := kst_sum n1 s'.V (2 + 2 * n1 + n2)
  rw [p1.t] at hsum
  have hn := fun k => kst_n (show 2 ≤ n1 by omega) s'.V k (2 + 2 * n1 + n2)
  have hb := fun k => kst_b (n1 := n1) (V := s'.V) (B := 1000) (by decide) (p1.v1000 (by omega)) k (2 + 2 * n1 + n2)
  have hlm := fun k => kst_lm (n1 := n1) (V := s'.V) (fun i => (p1.v i).1) k (2 + 2 * n1 + n2)
  have hmany : ∀ k : Int, (k = 0 ∨ k = 1 ∨ k = 2 ∨ k = 3) → 1 ≤ manyK n1 k (2 + 2 * n1 + n2) ∧ manyK n1 k (2 + 2 * n1 + n2) ≤ 1000 := fun k hk => by
    unfold manyK
    rcases hk with rfl | rfl | rfl | rfl
    · rw [if_pos rfl]; omega
    · rw [if_neg (by decide), if_pos rfl, if_pos (by omega), if_pos (by omega)]; omega
    · rw [if_neg (by decide), if_neg (by decide), if_pos rfl]; omega
    · rw [if_neg (by decide), if_neg (by decide), if_neg (by decide), if_pos rfl]; omega
  have mk := fun (k : Int) (hk : k = 0 ∨ k = 1 ∨ k = 2 ∨ k = 3) (ha : 0 ≤ (kst n1 s'.V k (2 + 2 * n1 + n2)).a ∧ (kst n1 s'.V k (2 + 2 * n1 + n2)).a ≤ 1000) => mean_ok (hn k) (hmany k hk).1 (hmany k hk).2 (hlm k) ha (hb k).1.2 (hb k).2.1.2
  obtain ⟨r0, m0⟩ := mk 0 (by decide) (by omega)
  obtain ⟨r1, m1⟩ := mk 1 (by decide) (by omega)
  obtain ⟨r2, m2⟩ := mk 2 (by decide) (by omega)
  obtain ⟨r3, m3⟩ := mk 3 (by decide) (by omega)
  clear mk hlm hb hn
  have hSh := fun (k : Int) hk => wear_Share_eq (k := k) hk (x := ((kst n1 s'.V 0 (2 + 2 * n1 + n2)).l, (kst n1 s'.V 0 (2 + 2 * n1 + n2)).m, (kst n1 s'.V 0 (2 + 2 * n1 + n2)).a, (kst n1 s'.V 1 (2 + 2 * n1 + n2)).l, (kst n1 s'.V 1 (2 + 2 * n1 + n2)).m, (kst n1 s'.V 1 (2 + 2 * n1 + n2)).a,
      (kst n1 s'.V 2 (2 + 2 * n1 + n2)).l, (kst n1 s'.V 2 (2 + 2 * n1 + n2)).m, (kst n1 s'.V 2 (2 + 2 * n1 + n2)).a, (kst n1 s'.V 3 (2 + 2 * n1 + n2)).l, (kst n1 s'.V 3 (2 + 2 * n1 + n2)).m, (kst n1 s'.V 3 (2 + 2 * n1 + n2)).a)) (by simp only; omega) (S := (a1.length : Int)) (by simp only; omega)
  simp only at hSh
  have hL15 := fun {f0 f1 f2 f3 s1 s2 s3 s4 : Nat} hS0 hS1 hS2 hS3 hA1 hA2 hA3 hA4 => counts_L15 hr ok (r0 := r0) (r1 := r1) (r2 := r2) (r3 := r3) (f0 := f0) (f1 := f1) (f2 := f2) (f3 := f3) (s1 := s1) (s2 := s2) (s3 := s3) (s4 := s4) ⟨by omega, by omega, by omega, by omega⟩ m0 m1 m2 m3 hS0 hS1 hS2 hS3 hA1 hA2 hA3 hA4 a1 0
  clear m0 m1 m2 m3
  generalize kst n1 s'.V 0 (2 + 2 * n1 + n2) = p0 at *
  generalize kst n1 s'.V 1 (2 + 2 * n1 + n2) = p1' at *
  generalize kst n1 s'.V 2 (2 + 2 * n1 + n2) = p2' at *
  generalize kst n1 s'.V 3 (2 + 2 * n1 + n2) = p3' at *
  obtain ⟨b0, hb0⟩ := Int.eq_ofNat_of_zero_le q0.1
  obtain ⟨b1, hb1⟩ := Int.eq_ofNat_of_zero_le q1.1
  obtain ⟨b2, hb2⟩ := Int.eq_ofNat_of_zero_le q2.1
  obtain ⟨b3, hb3⟩ := Int.eq_ofNat_of_zero_le q3.1
  rw [bb_neg (by rfl), opt_some hmap, mapL_len, opt_some (by exact hN), sm_inl, bb_neg (by rfl), opt_some (by exact p2), opt_some (by exact hO)]
  by_cases hz : a1.length = 0
  · have hz' : ((a1.length : Nat) : Int) < 1 := by omega
    have ha0 : Ieee.Format.add (FloatKind.format .f64) 0 0 = some 0 := by decide +kernel
    have ho : Ieee.Format.order (FloatKind.format .f64) 0 0 = some .eq := by decide +kernel
    have hK := hL15 ((hSh 0 (by decide)).trans (if_pos hz')) ((hSh 1 (by decide)).trans (if_pos hz')) ((hSh 2 (by decide)).trans (if_pos hz')) ((hSh 3 (by decide)).trans (if_pos hz')) ha0 ha0 ha0 ha0
    rw [opt_some (by exact hK), sm_inl, bb_pos (by rfl), bb_pos (by rw [beq_iff_eq]; omega), bb_pos (by rw [beq_iff_eq]; omega), bb_pos (by rw [ho]; rfl), opt_some awake43, Tw.run_ret]
  · have hz' : ¬ ((a1.length : Nat) : Int) < 1 := by omega
    obtain ⟨f0, f1, f2, f3, s1, s2, s3, s4, d0, d1, d2, d3, e1, e2, e3, e4, o1, o2⟩ := shares_ok (a0 := b0) (a1 := b1) (a2 := b2) (a3 := b3) (N := a1.length) (by omega) (by omega) (by omega)
    rw [← hb0] at d0
    rw [← hb1] at d1
    rw [← hb2] at d2
    rw [← hb3] at d3
    have hK := hL15 ((hSh 0 (by decide)).trans ((if_neg hz').trans (by exact d0))) ((hSh 1 (by decide)).trans ((if_neg hz').trans (by exact d1))) ((hSh 2 (by decide)).trans ((if_neg hz').trans (by exact d2))) ((hSh 3 (by decide)).trans ((if_neg hz').trans (by exact d3))) e1 e2 e3 e4
    rw [opt_some (by exact hK), sm_inl, bb_pos (by rfl), bb_pos (by rw [beq_iff_eq]; omega), bb_neg (by rw [beq_eq_false_iff_ne]; omega), bb_pos (decide_eq_true (by omega)), bb_pos o1, bb_pos o2, opt_some awake43, Tw.run_ret]

end Go.Proofs.Ytmlbioapefgioaa.Pure
