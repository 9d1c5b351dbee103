/- Layer 36: what a boot does. (printed by genb.py and mkmode.py) -/
import Derived.Test.YtcnomgpbkimmeaaQMode2
import Derived.Test.YtcnomgpbkimmeaaFboot
import Derived.Test.YtcnomgpbkimmeaaFlaw36
namespace Go.Proofs.Ytcnomgpbkimmeaa.Pure
open Go Go.Proofs.Ytcnomgpbkimmeaa.Va
set_option linter.unusedVariables false
set_option linter.unusedSimpArgs false

abbrev T31 : Type := Int × (Int × (Int × (Bool × (Int × (Int × (Int × (Int × (Int × (Int × (Int × (Int × (Int × (Int × (Int × (Int × (Int × (Int × (Int × (Int × (Int × (Int × (Int × (Int × (Int × (Int × (Int × (Int × (Int × (Int × Int)))))))))))))))))))))))))))))
abbrev T33 : Type := Int × (Int × (Int × (Bool × (Int × (Int × (Int × (Int × (Int × (Int × (Int × (Int × (Int × (Int × (Int × (Int × (Int × (Int × (Int × (Int × (Int × (Int × (Int × (Int × (Int × (Int × (Int × (Int × (Int × (Int × (Int × (Int × Int)))))))))))))))))))))))))))))))
def SA.tup (s : SA) : T31 := (s.m, s.a, s.l, s.f, s.t, s.c0.x0, s.c0.x1, s.c0.x2, s.c0.x3, s.c0.x4, s.c0.x5, s.c0.x6, s.c0.x7, s.c0.x8, s.c0.x9, s.c0.x10, s.c1.x0, s.c1.x1, s.c1.x2, s.c1.x3, s.c1.x4, s.c1.x5, s.c1.x6, s.c1.x7, s.c1.x8, s.c1.x9, s.c1.x10, s.r, s.g, s.r2, s.g2)
def SA.out2 (s : SA) (k e : Int) : T33 := (s.m, s.a, s.l, s.f, s.t, s.c0.x0, s.c0.x1, s.c0.x2, s.c0.x3, s.c0.x4, s.c0.x5, s.c0.x6, s.c0.x7, s.c0.x8, s.c0.x9, s.c0.x10, s.c1.x0, s.c1.x1, s.c1.x2, s.c1.x3, s.c1.x4, s.c1.x5, s.c1.x6, s.c1.x7, s.c1.x8, s.c1.x9, s.c1.x10, s.r, s.g, s.r2, s.g2, k, e)
def SA.setL (s : SA) (l : Int) : SA := ⟨s.m, s.a, l, s.f, s.t, s.c0, s.c1, s.r, s.g, s.r2, s.g2⟩
theorem right_l {s : SA} (h : RightS s) (hm : s.m = 4) : 0 ≤ s.l ∧ s.l ≤ 9 := by
  have := h.2.2.2.2
  unfold BodyS at this
  omega
theorem right_setL {s : SA} (h : RightS s) (hm : s.m = 4) {l : Int} (h0 : 0 ≤ l) (h9 : l ≤ 9) : RightS (s.setL l) := by
  refine ⟨h.1, h.2.1, h.2.2.1, h.2.2.2.1, ?_⟩
  have hb := h.2.2.2.2
  rcases hb with hb | hb | hb | hb | hb
  · exact absurd hb.1 (by omega)
  · exact absurd hb.1 (by omega)
  · exact absurd hb.1 (by omega)
  · exact absurd hb.1 (by omega)
  · exact Or.inr (Or.inr (Or.inr (Or.inr ⟨hm, ⟨h0, h9⟩, hb.2.2.1, hb.2.2.2.1, hb.2.2.2.2.1, hb.2.2.2.2.2⟩)))
/-- Back to the other slot. -/
def backS (s : SA) : SA := nextS 7 s 0 0 cd0
theorem back_right {s : SA} (h : RightS s) (hm : s.m = 4) : RightS (backS s) ∧ (backS s).m = 0 ∧ (backS s).a = 1 - s.a := by
  have hb := h.2.2.2.2
  have hb : ThereC s.oth ∧ Both s := by
    rcases hb with hb | hb | hb | hb | hb
    · exact absurd hb.1 (by omega)
    · exact absurd hb.1 (by omega)
    · exact absurd hb.1 (by omega)
    · exact absurd hb.1 (by omega)
    · exact ⟨hb.2.2.2.2.1, hb.2.2.2.2.2⟩
  have hcur : (backS s).cur = s.oth := by
    show (if 1 - s.a = 1 then (if s.a = 1 then (s.c0, cd0) else (cd0, s.c1) : Cd × Cd).2 else (if s.a = 1 then (s.c0, cd0) else (cd0, s.c1) : Cd × Cd).1) = if s.a = 1 then s.c0 else s.c1
    rcases h.1 with ha | ha <;> rw [ha] <;> rfl
  have hoth : (backS s).oth = cd0 := by
    show (if 1 - s.a = 1 then (if s.a = 1 then (s.c0, cd0) else (cd0, s.c1) : Cd × Cd).1 else (if s.a = 1 then (s.c0, cd0) else (cd0, s.c1) : Cd × Cd).2) = cd0
    rcases h.1 with ha | ha <;> rw [ha] <;> rfl
  refine ⟨⟨?_, by rw [hcur]; exact hb.1, hb.2.1, hb.2.2.1, Or.inl ⟨rfl, rfl, rfl, ⟨rfl, rfl⟩, Or.inr ⟨rfl, by rw [hoth]; exact none0⟩⟩⟩, rfl, rfl⟩
  show 1 - s.a = 0 ∨ 1 - s.a = 1
  have := h.1
  omega
theorem step7_eq {s : SA} (h : RightS s) (hm : s.m = 4) : stepS 7 s 0 0 cd0 = (backS s).out 0 := by
  unfold stepS
  rw [if_pos h, if_pos (by unfold fromS; omega), if_neg (fun h => absurd h.1 (by decide)), if_pos (show RightS (nextS 7 s 0 0 cd0) from (back_right h hm).1)]
  rfl
/-- What a boot does. -/
def whatS (s : SA) : Int := if RightS s ∧ s.m = 4 then if s.l > 0 then 1 else 2 else 0
theorem boot_What_eq (s : SA) : boot_What.c s.m s.a s.l s.f s.t s.c0.x0 s.c0.x1 s.c0.x2 s.c0.x3 s.c0.x4 s.c0.x5 s.c0.x6 s.c0.x7 s.c0.x8 s.c0.x9 s.c0.x10 s.c1.x0 s.c1.x1 s.c1.x2 s.c1.x3 s.c1.x4 s.c1.x5 s.c1.x6 s.c1.x7 s.c1.x8 s.c1.x9 s.c1.x10 s.r s.g s.r2 s.g2 = some (whatS s) := by
  simp only [boot_What.c, boot_What.t]
  rw [opt_some (book_Right_eq s)]
  unfold whatS
  by_cases h : RightS s
  rotate_left
  · rw [decide_eq_false h, bb_pos (by rfl), Tw.run_ret, if_neg (fun g => h g.1)]
  rw [decide_eq_true h, bb_neg (by rfl)]
  by_cases hm : s.m = 4
  rotate_left
  · rw [bb_pos (by simpa using hm), Tw.run_ret, if_neg (fun g => hm g.2)]
  rw [bb_neg (by simpa using hm), if_pos ⟨h, hm⟩]
  by_cases hl : s.l > 0
  · rw [bb_pos (decide_eq_true hl), Tw.run_ret, if_pos hl]
  · rw [bb_neg (decide_eq_false hl), Tw.run_ret, if_neg hl]
/-- The state behind a boot. -/
def nextB (s : SA) : SA := if s.m = 4 then if s.l > 0 then s.setL (s.l - 1) else backS s else s
def bootS (s : SA) : T33 := if RightS s then (nextB s).out2 (nextB s).a 0 else sa0.out2 0 2
theorem apply_left {s : SA} (h : RightS s) (hm : s.m = 4) (hl : s.l > 0) : book_Apply.c s.m s.a s.l s.f s.t s.c0.x0 s.c0.x1 s.c0.x2 s.c0.x3 s.c0.x4 s.c0.x5 s.c0.x6 s.c0.x7 s.c0.x8 s.c0.x9 s.c0.x10 s.c1.x0 s.c1.x1 s.c1.x2 s.c1.x3 s.c1.x4 s.c1.x5 s.c1.x6 s.c1.x7 s.c1.x8 s.c1.x9 s.c1.x10 s.r s.g s.r2 s.g2 (1 :: (w32 (w64 (s.l - 1)) :: (0 :: []))) = some ((s.setL (s.l - 1)).out 0) := by
  have h9 := right_l h hm
  have e : w32 (w64 (s.l - 1)) = s.l - 1 := by rw [w64_of (by omega) (by omega), w32_of (by omega) (by omega)]
  have e2 : w64 (s.l - 1) = s.l - 1 := w64_of (by omega) (by omega)
  have hr := right_setL h hm (l := s.l - 1) (by omega) (by omega)
  simp only [book_Apply.c, book_Apply.t]
  rw [e, bb_neg (by rfl), opt_some (x := 1) (by rfl), bb_pos (by rfl), opt_some (x := 0) (by rfl), bb_pos (by rfl), opt_some (x := s.l - 1) (by rfl), e2, opt_some (x := true) (by rw [← decide_eq_true hr]; exact book_Right_eq (s.setL (s.l - 1))), bb_neg (by rfl), Tw.run_ret]
  rfl
theorem boot_Next_eq (s : SA) : boot_Next.c s.m s.a s.l s.f s.t s.c0.x0 s.c0.x1 s.c0.x2 s.c0.x3 s.c0.x4 s.c0.x5 s.c0.x6 s.c0.x7 s.c0.x8 s.c0.x9 s.c0.x10 s.c1.x0 s.c1.x1 s.c1.x2 s.c1.x3 s.c1.x4 s.c1.x5 s.c1.x6 s.c1.x7 s.c1.x8 s.c1.x9 s.c1.x10 s.r s.g s.r2 s.g2 = some (bootS s) := by
  simp only [boot_Next.c, boot_Next.t]
  rw [opt_some (boot_What_eq s)]
  unfold bootS nextB whatS
  by_cases h : RightS s
  rotate_left
  · rw [if_neg (fun g => h g.1), bb_neg (by rfl), bb_neg (by rfl), opt_some (book_Right_eq s), decide_eq_false h, bb_pos (by rfl), Tw.run_ret, if_neg h]
    rfl
  rw [if_pos h]
  by_cases hm : s.m = 4
  rotate_left
  · rw [if_neg (fun g => hm g.2), bb_neg (by rfl), bb_neg (by rfl), opt_some (book_Right_eq s), decide_eq_true h, bb_neg (by rfl), Tw.run_ret, if_neg hm]
    rfl
  rw [if_pos ⟨h, hm⟩, if_pos hm]
  by_cases hl : s.l > 0
  · rw [if_pos hl, if_pos hl, bb_pos (by rfl), opt_some (x := 1 :: (w32 (w64 (s.l - 1)) :: (0 :: []))) (by rfl), opt_some (apply_left h hm hl), bb_neg (by rfl), Tw.run_ret]
    rfl
  · rw [if_neg hl, if_neg hl, bb_neg (by rfl), bb_pos (by rfl), opt_some (mode_Rollback_eq s 0 0 cd0), step7_eq h hm, bb_neg (by rfl), Tw.run_ret]
    rfl
def triesS (s : SA) : Int := if RightS s ∧ s.m = 4 then s.l + 1 else 0
theorem bootS_count {s : SA} (h : RightS s) (hm : s.m = 4) {l : Int} (h0 : 0 < l) (h9 : l ≤ 9) : bootS (s.setL l) = (s.setL (l - 1)).out2 s.a 0 ∧ whatS (s.setL l) = 1 := by
  have hr := right_setL h hm (l := l) (by omega) h9
  have hm' : (s.setL l).m = 4 := hm
  have hl' : (s.setL l).l > 0 := h0
  unfold bootS nextB whatS
  rw [if_pos hr, if_pos hm', if_pos hl', if_pos ⟨hr, hm'⟩, if_pos hl']
  exact ⟨rfl, rfl⟩
theorem bootS_back {s : SA} (h : RightS s) (hm : s.m = 4) : bootS (s.setL 0) = (backS s).out2 (1 - s.a) 0 ∧ whatS (s.setL 0) = 2 := by
  have hr := right_setL h hm (l := 0) (by omega) (by omega)
  have hm' : (s.setL 0).m = 4 := hm
  have hl' : ¬ (s.setL 0).l > 0 := by show ¬ (0 : Int) > 0; decide
  unfold bootS nextB whatS
  rw [if_pos hr, if_pos hm', if_neg hl', if_pos ⟨hr, hm'⟩, if_neg hl']
  exact ⟨rfl, rfl⟩
theorem bootS_still {s : SA} (h : RightS s) (hm : s.m ≠ 4) : bootS s = s.out2 s.a 0 ∧ whatS s = 0 := by
  unfold bootS nextB whatS
  rw [if_pos h, if_neg hm, if_neg (fun g => hm g.2)]
  exact ⟨rfl, rfl⟩
theorem setL_self (s : SA) : s.setL s.l = s := rfl
theorem boot_Tries_eq (s : SA) : boot_Tries.c s.m s.a s.l s.f s.t s.c0.x0 s.c0.x1 s.c0.x2 s.c0.x3 s.c0.x4 s.c0.x5 s.c0.x6 s.c0.x7 s.c0.x8 s.c0.x9 s.c0.x10 s.c1.x0 s.c1.x1 s.c1.x2 s.c1.x3 s.c1.x4 s.c1.x5 s.c1.x6 s.c1.x7 s.c1.x8 s.c1.x9 s.c1.x10 s.r s.g s.r2 s.g2 = some (triesS s) := by
  simp only [boot_Tries.c, boot_Tries.t]
  have hL : boot_Tries.L3 0 s.a s.m s.a s.l s.f s.t s.c0.x0 s.c0.x1 s.c0.x2 s.c0.x3 s.c0.x4 s.c0.x5 s.c0.x6 s.c0.x7 s.c0.x8 s.c0.x9 s.c0.x10 s.c1.x0 s.c1.x1 s.c1.x2 s.c1.x3 s.c1.x4 s.c1.x5 s.c1.x6 s.c1.x7 s.c1.x8 s.c1.x9 s.c1.x10 s.r s.g s.r2 s.g2 = some (triesS s) := by
    unfold boot_Tries.L3
    unfold triesS
    by_cases h : RightS s ∧ s.m = 4
    rotate_left
    · rw [if_neg h]
      refine Lp_end ?_
      have : whatS s = 0 := if_neg h
      simp only [boot_Tries.l3]
      rw [opt_some (x := 0) (by rw [← this]; exact boot_What_eq s), bb_neg (by rfl), Tw.run_ret]
    rw [if_pos h]
    obtain ⟨h, hm⟩ := h
    have h9 := right_l h hm
    obtain ⟨L, hL⟩ := Int.eq_ofNat_of_zero_le h9.1
    have key := Lp_seq (fun z : Int × T31 => (boot_Tries.l3 s.a z.1 z.2.1 z.2.2.1 z.2.2.2.1 z.2.2.2.2.1 z.2.2.2.2.2.1 z.2.2.2.2.2.2.1 z.2.2.2.2.2.2.2.1 z.2.2.2.2.2.2.2.2.1 z.2.2.2.2.2.2.2.2.2.1 z.2.2.2.2.2.2.2.2.2.2.1 z.2.2.2.2.2.2.2.2.2.2.2.1 z.2.2.2.2.2.2.2.2.2.2.2.2.1 z.2.2.2.2.2.2.2.2.2.2.2.2.2.1 z.2.2.2.2.2.2.2.2.2.2.2.2.2.2.1 z.2.2.2.2.2.2.2.2.2.2.2.2.2.2.2.1 z.2.2.2.2.2.2.2.2.2.2.2.2.2.2.2.2.1 z.2.2.2.2.2.2.2.2.2.2.2.2.2.2.2.2.2.1 z.2.2.2.2.2.2.2.2.2.2.2.2.2.2.2.2.2.2.1 z.2.2.2.2.2.2.2.2.2.2.2.2.2.2.2.2.2.2.2.1 z.2.2.2.2.2.2.2.2.2.2.2.2.2.2.2.2.2.2.2.2.1 z.2.2.2.2.2.2.2.2.2.2.2.2.2.2.2.2.2.2.2.2.2.1 z.2.2.2.2.2.2.2.2.2.2.2.2.2.2.2.2.2.2.2.2.2.2.1 z.2.2.2.2.2.2.2.2.2.2.2.2.2.2.2.2.2.2.2.2.2.2.2.1 z.2.2.2.2.2.2.2.2.2.2.2.2.2.2.2.2.2.2.2.2.2.2.2.2.1 z.2.2.2.2.2.2.2.2.2.2.2.2.2.2.2.2.2.2.2.2.2.2.2.2.2.1 z.2.2.2.2.2.2.2.2.2.2.2.2.2.2.2.2.2.2.2.2.2.2.2.2.2.2.1 z.2.2.2.2.2.2.2.2.2.2.2.2.2.2.2.2.2.2.2.2.2.2.2.2.2.2.2.1 z.2.2.2.2.2.2.2.2.2.2.2.2.2.2.2.2.2.2.2.2.2.2.2.2.2.2.2.2.1 z.2.2.2.2.2.2.2.2.2.2.2.2.2.2.2.2.2.2.2.2.2.2.2.2.2.2.2.2.2.1 z.2.2.2.2.2.2.2.2.2.2.2.2.2.2.2.2.2.2.2.2.2.2.2.2.2.2.2.2.2.2.1 z.2.2.2.2.2.2.2.2.2.2.2.2.2.2.2.2.2.2.2.2.2.2.2.2.2.2.2.2.2.2.2).run) (fun i : Nat => ((i : Int), (s.setL ((L : Int) - (i : Int))).tup)) (x := s.l + 1) L 0 (fun i _ hi => by
      obtain ⟨b1, b2⟩ := bootS_count h hm (l := (L : Int) - (i : Int)) (by omega) (by omega)
      have e : w64 ((i : Int) + 1) = ((i + 1 : Nat) : Int) := by rw [w64_of (by omega) (by omega)]; rfl
      simp only [boot_Tries.l3]
      rw [opt_some (x := 1) (by rw [← b2]; exact boot_What_eq (s.setL ((L : Int) - (i : Int)))), bb_pos (by rfl), opt_some (x := (s.setL ((L : Int) - (i : Int) - 1)).out2 s.a 0) (by rw [← b1]; exact boot_Next_eq (s.setL ((L : Int) - (i : Int)))), bb_neg (by rfl), bb_neg (by show (s.a != s.a) = false; simp), Tw.run_ret, e,
        show (L : Int) - (i : Int) - 1 = (L : Int) - ((i + 1 : Nat) : Int) by omega]
      rfl) (by
      obtain ⟨b1, b2⟩ := bootS_back h hm
      have e0 : (L : Int) - ((0 + L : Nat) : Int) = 0 := by omega
      have e : w64 (((0 + L : Nat) : Int) + 1) = s.l + 1 := by rw [w64_of (by omega) (by omega)]; omega
      simp only [boot_Tries.l3, e0]
      rw [opt_some (x := 2) (by rw [← b2]; exact boot_What_eq (s.setL 0)), bb_pos (by rfl), opt_some (x := (backS s).out2 (1 - s.a) 0) (by rw [← b1]; exact boot_Next_eq (s.setL 0)), bb_neg (by rfl), bb_pos (by show ((1 - s.a) != s.a) = true; rw [bne_iff_ne]; have := h.1; omega), Tw.run_ret, e])
    have e0 : (L : Int) - ((0 : Nat) : Int) = s.l := by omega
    simp only [e0] at key
    exact key
  rw [opt_some hL, Tw.run_ret]
def saw4 : SA := ⟨4, 0, 2, false, 0, ⟨1, 1, 1, 0, 0, 0, 0, 0, 0, 0, 0⟩, ⟨1, 1, 1, 0, 0, 0, 0, 0, 0, 0, 0⟩, 1, 1, 7, 2⟩
theorem awake36 : law36_awake.c = some true := by
  have hr : RightS saw4 := by decide
  obtain ⟨b1, b2⟩ := bootS_count hr rfl (l := 2) (by decide) (by decide)
  have ht : triesS saw4 = 3 := by
    unfold triesS
    rw [if_pos ⟨hr, rfl⟩]
    rfl
  simp only [law36_awake.c, law36_awake.t]
  rw [opt_some (x := (saw4.setL 1).out2 0 0) (by exact (boot_Next_eq saw4).trans (congrArg some b1)), opt_some (x := 3) (by rw [← ht]; exact boot_Tries_eq saw4), bb_pos (by rfl), bb_pos (by rfl), bb_pos (by rfl), bb_pos (by rfl), opt_some (x := 1) (by exact (boot_What_eq saw4).trans (congrArg some b2)), Tw.run_ret]
  rfl

end Go.Proofs.Ytcnomgpbkimmeaa.Pure
