/- The plain truth of BootEnds. -/
import Derived.Test.YtcnomgpbkimmeaaFlaw36
import Derived.Test.YtcnomgpbkimmeaaFlaw36BootEnds
import Derived.Test.YtcnomgpbkimmeaaQBoot
namespace Go.Proofs.Ytcnomgpbkimmeaa.Pure
open Go Go.Proofs.Ytcnomgpbkimmeaa.Va
set_option linter.unusedVariables false
set_option linter.unusedSimpArgs false

/-- The state behind so many boots. -/
def endS (s : SA) (i : Nat) : SA := if s.m = 4 then if (i : Int) ≤ s.l then s.setL (s.l - (i : Int)) else backS s else s
theorem bootEnds (s : SA) (more : Int) (hm : InR .u8 more) : law36_BootEnds.c s.m s.a s.l s.f s.t s.c0.x0 s.c0.x1 s.c0.x2 s.c0.x3 s.c0.x4 s.c0.x5 s.c0.x6 s.c0.x7 s.c0.x8 s.c0.x9 s.c0.x10 s.c1.x0 s.c1.x1 s.c1.x2 s.c1.x3 s.c1.x4 s.c1.x5 s.c1.x6 s.c1.x7 s.c1.x8 s.c1.x9 s.c1.x10 s.r s.g s.r2 s.g2 more = some true := by
  simp only [law36_BootEnds.c, law36_BootEnds.t]
  rw [opt_some (ref34_Right_eq s)]
  by_cases h : RightS s
  rotate_left
  · rw [decide_eq_false h, bb_pos (by rfl), opt_some awake36, Tw.run_ret]
  rw [decide_eq_true h, bb_neg (by rfl)]
  have hmo := hm.u8
  have h9 : 0 ≤ s.l ∧ s.l ≤ 9 := by
    by_cases hm : s.m = 4
    · exact right_l h hm
    · have := h.2.2.2.2
      unfold BodyS at this
      omega
  obtain ⟨q, hq⟩ := Int.eq_ofNat_of_zero_le hmo.1
  obtain ⟨N, hN⟩ : ∃ N : Nat, w64 (w64 (s.l + 3) + w64 (Int.tmod more 20)) = (N : Int) ∧ s.l + 3 ≤ (N : Int) ∧ N ≤ 100 := by
    refine ⟨(s.l + 3 + ((q % 20 : Nat) : Int)).toNat, ?_⟩
    rw [hq, show (20 : Int) = ((20 : Nat) : Int) from rfl, tmod_nat, w64_of (n := s.l + 3) (by omega) (by omega), w64_of (n := ((q % 20 : Nat) : Int)) (by omega) (by omega), w64_of (by omega) (by omega)]
    omega
  obtain ⟨hN, hN2, hN3⟩ := hN
  have hL : law36_BootEnds.L7 more s.l (s.m == 4) 0 s.m s.a s.l s.f s.t s.c0.x0 s.c0.x1 s.c0.x2 s.c0.x3 s.c0.x4 s.c0.x5 s.c0.x6 s.c0.x7 s.c0.x8 s.c0.x9 s.c0.x10 s.c1.x0 s.c1.x1 s.c1.x2 s.c1.x3 s.c1.x4 s.c1.x5 s.c1.x6 s.c1.x7 s.c1.x8 s.c1.x9 s.c1.x10 s.r s.g s.r2 s.g2 s.m s.a s.l s.f s.t s.c0.x0 s.c0.x1 s.c0.x2 s.c0.x3 s.c0.x4 s.c0.x5 s.c0.x6 s.c0.x7 s.c0.x8 s.c0.x9 s.c0.x10 s.c1.x0 s.c1.x1 s.c1.x2 s.c1.x3 s.c1.x4 s.c1.x5 s.c1.x6 s.c1.x7 s.c1.x8 s.c1.x9 s.c1.x10 s.r s.g s.r2 s.g2 = some (.inl ()) := by
    unfold law36_BootEnds.L7
    have key := Lp_seq (fun z : Int × T31 => (law36_BootEnds.l7 more s.l (s.m == 4) s.m s.a s.l s.f s.t s.c0.x0 s.c0.x1 s.c0.x2 s.c0.x3 s.c0.x4 s.c0.x5 s.c0.x6 s.c0.x7 s.c0.x8 s.c0.x9 s.c0.x10 s.c1.x0 s.c1.x1 s.c1.x2 s.c1.x3 s.c1.x4 s.c1.x5 s.c1.x6 s.c1.x7 s.c1.x8 s.c1.x9 s.c1.x10 s.r s.g s.r2 s.g2 z.1 z.2.1 z.2.2.1 z.2.2.2.1 z.2.2.2.2.1 z.2.2.2.2.2.1 z.2.2.2.2.2.2.1 z.2.2.2.2.2.2.2.1 z.2.2.2.2.2.2.2.2.1 z.2.2.2.2.2.2.2.2.2.1 z.2.2.2.2.2.2.2.2.2.2.1 z.2.2.2.2.2.2.2.2.2.2.2.1 z.2.2.2.2.2.2.2.2.2.2.2.2.1 z.2.2.2.2.2.2.2.2.2.2.2.2.2.1 z.2.2.2.2.2.2.2.2.2.2.2.2.2.2.1 z.2.2.2.2.2.2.2.2.2.2.2.2.2.2.2.1 z.2.2.2.2.2.2.2.2.2.2.2.2.2.2.2.2.1 z.2.2.2.2.2.2.2.2.2.2.2.2.2.2.2.2.2.1 z.2.2.2.2.2.2.2.2.2.2.2.2.2.2.2.2.2.2.1 z.2.2.2.2.2.2.2.2.2.2.2.2.2.2.2.2.2.2.2.1 z.2.2.2.2.2.2.2.2.2.2.2.2.2.2.2.2.2.2.2.2.1 z.2.2.2.2.2.2.2.2.2.2.2.2.2.2.2.2.2.2.2.2.2.1 z.2.2.2.2.2.2.2.2.2.2.2.2.2.2.2.2.2.2.2.2.2.2.1 z.2.2.2.2.2.2.2.2.2.2.2.2.2.2.2.2.2.2.2.2.2.2.2.1 z.2.2.2.2.2.2.2.2.2.2.2.2.2.2.2.2.2.2.2.2.2.2.2.2.1 z.2.2.2.2.2.2.2.2.2.2.2.2.2.2.2.2.2.2.2.2.2.2.2.2.2.1 z.2.2.2.2.2.2.2.2.2.2.2.2.2.2.2.2.2.2.2.2.2.2.2.2.2.2.1 z.2.2.2.2.2.2.2.2.2.2.2.2.2.2.2.2.2.2.2.2.2.2.2.2.2.2.2.1 z.2.2.2.2.2.2.2.2.2.2.2.2.2.2.2.2.2.2.2.2.2.2.2.2.2.2.2.2.1 z.2.2.2.2.2.2.2.2.2.2.2.2.2.2.2.2.2.2.2.2.2.2.2.2.2.2.2.2.2.1 z.2.2.2.2.2.2.2.2.2.2.2.2.2.2.2.2.2.2.2.2.2.2.2.2.2.2.2.2.2.2.1 z.2.2.2.2.2.2.2.2.2.2.2.2.2.2.2.2.2.2.2.2.2.2.2.2.2.2.2.2.2.2.2).run) (fun i : Nat => ((i : Int), (endS s i).tup)) (x := .inl ()) N 0 (fun i _ hi => by
      have e : w64 ((i : Int) + 1) = ((i + 1 : Nat) : Int) := by rw [w64_of (by omega) (by omega)]; rfl
      simp only [law36_BootEnds.l7, hN]
      rw [bb_pos (decide_eq_true (by omega))]
      by_cases hm4 : s.m = 4
      rotate_left
      · have e1 : endS s i = s := if_neg hm4
        have e2 : endS s (i + 1) = s := if_neg hm4
        have em : (s.m == 4) = false := beq_eq_false_iff_ne.2 hm4
        obtain ⟨b1, _⟩ := bootS_still h hm4
        rw [e1, e2, em, opt_some (x := s.out2 s.a 0) (by rw [← b1]; exact boot_Next_eq s), bb_neg (by rfl), bb_neg (by rfl), bb_neg (by show (s.a != s.a) = false; simp), bb_pos (by rfl), bb_neg (by simp only [SA.out2, beq_self_eq_true, Bool.true_and, Bool.and_true, Bool.not_true]), bb_neg (by rfl), bb_neg (by rfl), Tw.run_ret, e]
        rfl
      have em : (s.m == 4) = true := by simpa using hm4
      by_cases hi1 : (i : Int) < s.l
      · have e1 : endS s i = s.setL (s.l - (i : Int)) := by unfold endS; rw [if_pos hm4, if_pos (by omega)]
        have e2 : endS s (i + 1) = s.setL (s.l - (i : Int) - 1) := by unfold endS; rw [if_pos hm4, if_pos (by omega)]; congr 1; omega
        obtain ⟨b1, _⟩ := bootS_count h hm4 (l := s.l - (i : Int)) (by omega) (by omega)
        have ew : w64 (w64 (s.l - 1) - (i : Int)) = s.l - (i : Int) - 1 := by rw [w64_of (n := s.l - 1) (by omega) (by omega), w64_of (by omega) (by omega)]; omega
        rw [e1, e2, em, opt_some (x := (s.setL (s.l - (i : Int) - 1)).out2 s.a 0) (by rw [← b1]; exact boot_Next_eq (s.setL (s.l - (i : Int)))), bb_pos (by rfl), bb_neg (decide_eq_false (by omega)), bb_neg (by rfl), bb_neg (by show (s.a != s.a) = false; simp), bb_neg (by rfl), bb_pos (by rfl), bb_neg (decide_eq_false (by omega)), bb_pos (by rfl), bb_pos (decide_eq_true hi1),
          bb_neg (by show ((s.l - (i : Int) - 1) != w64 (w64 (s.l - 1) - (i : Int))) = false; rw [ew]; simp), Tw.run_ret, e]
        rfl
      · have e2 : endS s (i + 1) = backS s := by unfold endS; rw [if_pos hm4, if_neg (by omega)]
        have hb := back_right h hm4
        have ew : w64 (1 - s.a) = 1 - s.a := w64_1a h.1
        have step : boot_Next.c (endS s i).m (endS s i).a (endS s i).l (endS s i).f (endS s i).t (endS s i).c0.x0 (endS s i).c0.x1 (endS s i).c0.x2 (endS s i).c0.x3 (endS s i).c0.x4 (endS s i).c0.x5 (endS s i).c0.x6 (endS s i).c0.x7 (endS s i).c0.x8 (endS s i).c0.x9 (endS s i).c0.x10 (endS s i).c1.x0 (endS s i).c1.x1 (endS s i).c1.x2 (endS s i).c1.x3 (endS s i).c1.x4 (endS s i).c1.x5 (endS s i).c1.x6 (endS s i).c1.x7 (endS s i).c1.x8 (endS s i).c1.x9 (endS s i).c1.x10 (endS s i).r (endS s i).g (endS s i).r2 (endS s i).g2 = some ((backS s).out2 (1 - s.a) 0) := by
          by_cases hi2 : (i : Int) = s.l
          · have e1 : endS s i = s.setL 0 := by unfold endS; rw [if_pos hm4, if_pos (by omega)]; congr 1; omega
            rw [e1, ← (bootS_back h hm4).1]
            exact boot_Next_eq (s.setL 0)
          · have e1 : endS s i = backS s := by unfold endS; rw [if_pos hm4, if_neg (by omega)]
            obtain ⟨b1, _⟩ := bootS_still hb.1 (by rw [hb.2.1]; decide)
            rw [e1]
            exact (boot_Next_eq (backS s)).trans (congrArg some b1)
        rw [e2, em, opt_some (x := (backS s).out2 (1 - s.a) 0) (by exact step), bb_pos (by rfl), bb_pos (decide_eq_true (by omega)), bb_neg (by rfl), bb_neg (by show ((1 - s.a) != w64 (1 - s.a)) = false; rw [ew]; simp), bb_neg (by rfl), bb_pos (by rfl), bb_pos (decide_eq_true (by omega)), bb_neg (by rfl), bb_pos (by rfl), bb_neg (decide_eq_false (by omega)), Tw.run_ret, e]
        rfl) (by
      simp only [law36_BootEnds.l7, hN, Nat.zero_add]
      rw [bb_neg (decide_eq_false (by omega)), Tw.run_ret])
    have e0 : endS s 0 = s := by
      unfold endS
      by_cases hm4 : s.m = 4
      · rw [if_pos hm4, if_pos (by omega)]
        show s.setL (s.l - 0) = s
        rw [Int.sub_zero, setL_self]
      · rw [if_neg hm4]
    simp only [e0] at key
    exact key
  rw [opt_some hL, sm_inl, opt_some awake36, Tw.run_ret]

theorem BootEnds (a0_0 : Int) (a0_1 : Int) (a0_2 : Int) (a0_3 : Bool) (a0_4 : Int) (a0_5_0_0 : Int) (a0_5_0_1 : Int) (a0_5_0_2 : Int) (a0_5_0_3_0 : Int) (a0_5_0_3_1 : Int) (a0_5_0_3_2 : Int) (a0_5_0_3_3 : Int) (a0_5_0_3_4 : Int) (a0_5_0_3_5 : Int) (a0_5_0_3_6 : Int) (a0_5_0_3_7 : Int) (a0_5_1_0 : Int) (a0_5_1_1 : Int) (a0_5_1_2 : Int) (a0_5_1_3_0 : Int) (a0_5_1_3_1 : Int) (a0_5_1_3_2 : Int) (a0_5_1_3_3 : Int) (a0_5_1_3_4 : Int) (a0_5_1_3_5 : Int) (a0_5_1_3_6 : Int) (a0_5_1_3_7 : Int) (a0_6 : Int) (a0_7 : Int) (a0_8 : Int) (a0_9 : Int) (a1 : Int) (w0 : InR .i64 a0_0) (w1 : InR .i64 a0_1) (w2 : InR .i64 a0_2) (w3 : InR .i64 a0_4) (w4 : InR .i64 a0_5_0_0) (w5 : InR .i64 a0_5_0_1) (w6 : InR .i64 a0_5_0_2) (w7 : InR .u32 a0_5_0_3_0) (w8 : InR .u32 a0_5_0_3_1) (w9 : InR .u32 a0_5_0_3_2) (w10 : InR .u32 a0_5_0_3_3) (w11 : InR .u32 a0_5_0_3_4) (w12 : InR .u32 a0_5_0_3_5) (w13 : InR .u32 a0_5_0_3_6) (w14 : InR .u32 a0_5_0_3_7) (w15 : InR .i64 a0_5_1_0) (w16 : InR .i64 a0_5_1_1) (w17 : InR .i64 a0_5_1_2) (w18 : InR .u32 a0_5_1_3_0) (w19 : InR .u32 a0_5_1_3_1) (w20 : InR .u32 a0_5_1_3_2) (w21 : InR .u32 a0_5_1_3_3) (w22 : InR .u32 a0_5_1_3_4) (w23 : InR .u32 a0_5_1_3_5) (w24 : InR .u32 a0_5_1_3_6) (w25 : InR .u32 a0_5_1_3_7) (w26 : InR .i64 a0_6) (w27 : InR .i64 a0_7) (w28 : InR .i64 a0_8) (w29 : InR .i64 a0_9) (w30 : InR .u8 a1) : law36_BootEnds.c a0_0 a0_1 a0_2 a0_3 a0_4 a0_5_0_0 a0_5_0_1 a0_5_0_2 a0_5_0_3_0 a0_5_0_3_1 a0_5_0_3_2 a0_5_0_3_3 a0_5_0_3_4 a0_5_0_3_5 a0_5_0_3_6 a0_5_0_3_7 a0_5_1_0 a0_5_1_1 a0_5_1_2 a0_5_1_3_0 a0_5_1_3_1 a0_5_1_3_2 a0_5_1_3_3 a0_5_1_3_4 a0_5_1_3_5 a0_5_1_3_6 a0_5_1_3_7 a0_6 a0_7 a0_8 a0_9 a1 = some true := by
  exact bootEnds ⟨a0_0, a0_1, a0_2, a0_3, a0_4, ⟨a0_5_0_0, a0_5_0_1, a0_5_0_2, a0_5_0_3_0, a0_5_0_3_1, a0_5_0_3_2, a0_5_0_3_3, a0_5_0_3_4, a0_5_0_3_5, a0_5_0_3_6, a0_5_0_3_7⟩, ⟨a0_5_1_0, a0_5_1_1, a0_5_1_2, a0_5_1_3_0, a0_5_1_3_1, a0_5_1_3_2, a0_5_1_3_3, a0_5_1_3_4, a0_5_1_3_5, a0_5_1_3_6, a0_5_1_3_7⟩, a0_6, a0_7, a0_8, a0_9⟩ a1 w30

end Go.Proofs.Ytcnomgpbkimmeaa.Pure
