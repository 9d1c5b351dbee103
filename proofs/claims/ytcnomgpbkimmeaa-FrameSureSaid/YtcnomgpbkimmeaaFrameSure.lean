/- The plain truth of FrameSure. -/
import Derived.Test.YtcnomgpbkimmeaaFlaw10
import Derived.Test.YtcnomgpbkimmeaaQFrame
namespace Go.Proofs.Ytcnomgpbkimmeaa.Pure
open Go Go.Proofs.Ytcnomgpbkimmeaa.Va
set_option linter.unusedVariables false
set_option linter.unusedSimpArgs false

/-- A twin with bits raised is a twin only if none was. -/
theorem twin_up {n u : Int} (h0 : 0 ≤ n) (h1 : n ≤ 65535) (hu : 0 ≤ u ∧ u < 4294967296) (h : (toldR (bOr .u32 (twin n) u)).2 = true) : bOr .u32 (twin n) u = twin n := by
  obtain ⟨n, rfl⟩ := Int.eq_ofNat_of_zero_le h0
  obtain ⟨u, rfl⟩ := Int.eq_ofNat_of_zero_le hu.1
  have et : twin (n : Int) = (((65535 - n) * 65536 + n : Nat) : Int) := by unfold twin; omega
  have hx : (65535 - n) * 65536 + n < 4294967296 := by omega
  rw [et] at h ⊢
  rw [bOr_nat _ u hx (show u < 4294967296 by omega)] at h ⊢
  obtain ⟨y, hy⟩ : ∃ y, y = ((65535 - n) * 65536 + n) ||| u := ⟨_, rfl⟩
  rw [← hy] at h ⊢
  have hy1 : y < 2 ^ 32 := by rw [hy]; exact Nat.or_lt_two_pow (by omega) (by omega)
  have hlo : ((65535 - n) * 65536 + n) % 65536 ≤ y % 65536 := by
    have := Nat.or_mod_two_pow (a := (65535 - n) * 65536 + n) (b := u) (n := 16)
    rw [← hy] at this
    rw [show (65536 : Nat) = 2 ^ 16 by decide] at *
    rw [this]
    exact Nat.left_le_or
  have hhi : ((65535 - n) * 65536 + n) / 65536 ≤ y / 65536 := by
    have := Nat.or_div_two_pow (a := (65535 - n) * 65536 + n) (b := u) (n := 16)
    rw [← hy] at this
    rw [show (65536 : Nat) = 2 ^ 16 by decide] at *
    rw [this]
    exact Nat.left_le_or
  unfold toldR at h
  split at h
  · omega
  · cases h

theorem FrameSure (a0_0 : Int) (a0_1 : Int) (a0_2 : List Int) (a1 : List Int) (a2 : List Int) (w0 : InR .i64 a0_0) (w1 : InR .i64 a0_1) (w2 : a0_2.length * 4 ≤ reachBytes) (w3 : ∀ x4 ∈ a0_2, InR .u32 x4) (w4 : a1.length * 4 ≤ reachBytes) (w5 : ∀ x7 ∈ a1, InR .u32 x7) (w6 : a2.length * 4 ≤ reachBytes) (w7 : ∀ x10 ∈ a2, InR .u32 x10) : law10_FrameSure.c a0_0 a0_1 a0_2 a1 a2 = some true := by
  simp only [law10_FrameSure.c, law10_FrameSure.t, awake10, Tw.run_opt, frame_Lay_eq a0_0 a0_1 w3 w2, ref10_Right_eq, Option.bind_some]
  by_cases hf : frP a0_0 a0_1 a0_2.length
  rotate_left
  · rw [if_neg hf, decide_eq_false hf, bb_pos (by rfl)]
    rfl
  obtain ⟨_, _, _, g1, g2⟩ := id hf
  obtain ⟨s, hs⟩ : ∃ s, s = sealW (fraL a0_0 a0_1 a0_2) := ⟨_, rfl⟩
  have hL : s.length = a0_2.length + 3 := by rw [hs]; unfold sealW; rw [List.length_append, fraL_len]; rfl
  have hsw : Words s := by rw [hs]; exact words_append (fraL_words hf w3) (words_cons (zs_u32 _) words_nil)
  have hu : Words a1 := w5
  have hul : a1.length ≤ 35184372088832 := by rw [reach_eq] at w4; omega
  have hml : a2.length ≤ 35184372087808 := by rw [reach_eq] at w6; omega
  obtain ⟨P, hP⟩ : ∃ P : Nat → Bool, P = fun i => true := ⟨_, rfl⟩
  have hPi : ∀ i, P i = true := fun i => by rw [hP]
  obtain ⟨m, hm⟩ : ∃ m, m = min s.length a1.length := ⟨_, rfl⟩
  have hLp : law10_FrameSure.L7 a1 a2 true 0 a0_0 a0_1 a0_2 s s = some (sameP P s a1 m, orP P s a1 m) := by
    have := Lp_seq (fun q => (law10_FrameSure.l7 a1 a2 a0_0 a0_1 a0_2 s q.1 q.2.1 q.2.2).run) (fun i => (sameP P s a1 i, ((i : Int), orP P s a1 i))) (x := (sameP P s a1 m, orP P s a1 m)) m 0 (fun i _ hi => ?_) ?_
    · rw [orP_zero] at this
      exact this
    · have h1 : i < s.length := by omega
      have h2 : i < a1.length := by omega
      have hlt : ((0 : Int) ≤ (i : Int) ∧ (i : Int) < (((orP P s a1 i).length : Nat) : Int)) := ⟨by omega, by rw [orP_len]; omega⟩
      have e0 : raisP P s a1 i i = s.getD i 0 := by unfold raisP; rw [if_neg (by omega)]
      have e1 : raisP P s a1 (i + 1) i = bOr .u32 (s.getD i 0) (a1.getD i 0) := by unfold raisP; rw [if_pos ⟨by omega, hPi i⟩]
      simp only [law10_FrameSure.l7, Int.toNat_natCast]
      rw [bb_pos (decide_eq_true (by rw [orP_len]; omega)), bb_pos (decide_eq_true (by omega)), w64_of (by omega) (by omega), dd_pos hlt]
      simp only [Tw.run_opt, orP_get h1, word_some h2, Option.bind_some, e0]
      rw [dd_pos hlt.1]
      simp only [Tw.run_opt, Option.bind_some]
      rw [dd_pos hlt]
      simp only [Tw.run_opt, Option.bind_some, orP_set h1 (hPi i)]
      rw [sameP, hPi]
      cases hb : sameP P s a1 i with
      | false =>
        rw [bb_neg rfl]
        rfl
      | true =>
        rw [bb_pos rfl, dd_pos ⟨by omega, by simp only [orP_set h1 (hPi i), orP_len]; omega⟩]
        simp only [Tw.run_opt, orP_get h1, Option.bind_some, e1]
        rw [dd_pos ⟨by omega, by omega⟩]
        simp only [Tw.run_opt, word_some h1, Option.bind_some, Tw.run_ret]
        rfl
    · simp only [law10_FrameSure.l7, Tw.run_bb, Tw.run_ret, Nat.zero_add, orP_len]
      by_cases h : m < s.length
      · rw [if_pos (decide_eq_true (by omega)), if_neg (by rw [decide_eq_true_eq]; omega)]
      · rw [if_neg (by rw [decide_eq_true_eq]; omega)]
  have how : Words (orP P s a1 m) := orP_words hsw hu
  have hol : (orP P s a1 m).length = a0_2.length + 3 := by rw [orP_len, hL]
  have hT := frame_Read_eq (words_append how w7) (by rw [List.length_append, hol]; omega)
  have hbad : sameP P s a1 m = false → readF (orP P s a1 m ++ a2) = noF := by
    intro hfs
    have hne := sameP_ne (P := P) (u := a1) (show m ≤ s.length by omega) hfs
    have h0 : (orP P s a1 m ++ a2).getD 0 0 = raisP P s a1 m 0 := by
      rw [List.getD_eq_getElem?_getD, List.getElem?_append_left (by omega), orP_get (by omega)]
      rfl
    have hs0 : s.getD 0 0 = twin (a0_2.length : Int) := by rw [hs]; rfl
    unfold readF
    rw [if_neg]
    rintro ⟨⟨ht, hb1, hb2, hb3⟩, _, _, hr⟩
    by_cases e0 : raisP P s a1 m 0 = twin (a0_2.length : Int)
    · have hT := toldR_twin (n := (a0_2.length : Int)) (by omega) (by omega)
      have hc : lenF (orP P s a1 m ++ a2) = a0_2.length := by unfold lenF; rw [h0, e0, hT]; rfl
      rw [hc, List.take_append_of_le_length (by omega), List.take_of_length_le (by omega)] at hr
      have := sure_seal (A := s) (B := orP P s a1 m) orP_len.symm (by omega) (fun j hj => by
        rw [orP_getD hj]
        exact raisP_up hsw hu) (by rw [hs]; exact rightB_sealW _) hr
      exact hne this.symm
    · rw [h0] at ht
      have hm0 : 0 < m := by
        rcases Nat.eq_zero_or_pos m with h | h
        · unfold raisP at e0
          rw [if_neg (by omega), hs0] at e0
          exact absurd rfl e0
        · exact h
      unfold raisP at ht e0
      rw [if_pos ⟨hm0, hPi 0⟩, hs0] at ht e0
      exact e0 (twin_up (by omega) (by omega) (word_range hu 0) ht)
  rw [if_pos hf, bb_neg (by rfl)]
  show (Tw.dd _ _ _ _).run = _
  rw [← hs]
  rw [dd_pos (by rw [hL]; omega)]
  simp only [Tw.run_opt, hLp, Option.bind_some]
  rw [dd_pos (by rw [hol]; omega)]
  simp only [Tw.run_opt, hT, Option.bind_some]
  cases hsm : sameP P s a1 m with
  | true =>
    have hrd := read_seal hf a2
    rw [← hs] at hrd
    rw [sameP_eq hsm, hrd]
    simp only [Tw.run_opt, Tw.run_bb, Tw.run_ret, ref10_Same_eq a0_0 a0_1 a0_0 a0_1 a0_2 (show a0_2.length ≤ 140737488351232 by omega), Option.bind_some]
    simp
  | false =>
    rw [hbad hsm]
    rfl

end Go.Proofs.Ytcnomgpbkimmeaa.Pure
