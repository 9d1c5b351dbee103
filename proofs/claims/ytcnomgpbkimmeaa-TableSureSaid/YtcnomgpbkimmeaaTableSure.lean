/- The plain truth of TableSure. -/
import Derived.Test.YtcnomgpbkimmeaaFlaw25
import Derived.Test.YtcnomgpbkimmeaaQAwake25
import Derived.Test.YtcnomgpbkimmeaaQSure
namespace Go.Proofs.Ytcnomgpbkimmeaa.Pure
open Go Go.Proofs.Ytcnomgpbkimmeaa.Va
set_option linter.unusedVariables false
set_option linter.unusedSimpArgs false

theorem TableSure (a0_0 : Int) (a0_1 : Int) (a0_2 : List Int) (a1 : List Int) (w0 : InR .i64 a0_0) (w1 : InR .i64 a0_1) (w2 : a0_2.length * 8 ≤ reachBytes) (w3 : ∀ x4 ∈ a0_2, InR .i64 x4) (w4 : a1.length * 4 ≤ reachBytes) (w5 : ∀ x7 ∈ a1, InR .u32 x7) : law25_TableSure.c a0_0 a0_1 a0_2 a1 = some true := by
  simp only [law25_TableSure.c, law25_TableSure.t, awake25, Tw.run_opt, table_Lay_eq a0_0 a0_1 w2, Option.bind_some]
  cases hr : rightT a0_0 a0_1 a0_2 with
  | false => rfl
  | true =>
    have hp := pages_le (right_parts hr).2
    obtain ⟨s, hs⟩ : ∃ s, s = sealL (tabL a0_0 a0_1 a0_2) := ⟨_, rfl⟩
    have hL : s.length = a0_2.length + 4 := by rw [hs]; unfold sealL; rw [List.length_append, tabL_len]; rfl
    have hsw : Words s := by rw [hs]; exact words_append (tabL_words _ _ _) (words_cons (zs_inR _) words_nil)
    have hu : Words a1 := w5
    have hul : a1.length ≤ 35184372088832 := by rw [reach_eq] at w4; omega
    have hts : takeT s = (a0_0, a0_1, 0, a0_2) := by
      have := take_seal hr []
      rw [List.append_nil, ← hs] at this
      exact this
    obtain ⟨P, hP⟩ : ∃ P : Nat → Bool, P = fun i => i != 2 := ⟨_, rfl⟩
    obtain ⟨m, hm⟩ : ∃ m, m = min s.length a1.length := ⟨_, rfl⟩
    have hLp : law25_TableSure.L6 a1 true 0 a0_0 a0_1 a0_2 s = some (sameP P s a1 m, orP P s a1 m) := by
      have := Lp_seq (fun q => (law25_TableSure.l6 a1 a0_0 a0_1 a0_2 q.1 q.2.1 q.2.2).run) (fun i => (sameP P s a1 i, ((i : Int), orP P s a1 i))) (x := (sameP P s a1 m, orP P s a1 m)) m 0 (fun i _ hi => ?_) ?_
      · rw [orP_zero] at this
        exact this
      · have h1 : i < s.length := by omega
        have h2 : i < a1.length := by omega
        have hlt : ((0 : Int) ≤ (i : Int) ∧ (i : Int) < (((orP P s a1 i).length : Nat) : Int)) := ⟨by omega, by rw [orP_len]; omega⟩
        have e0 : raisP P s a1 i i = s.getD i 0 := by unfold raisP; rw [if_neg (by omega)]
        simp only [law25_TableSure.l6, Int.toNat_natCast]
        rw [bb_pos (decide_eq_true (by rw [orP_len]; omega)), bb_pos (decide_eq_true (by omega)), w64_of (by omega) (by omega)]
        by_cases hi2 : i = 2
        · rw [bb_neg (by simp [hi2]), ← orP_keep (.inl (by rw [hP, hi2]; rfl))]
          rw [sameP, hP, hi2]
          simp [Tw.run_ret]
        · rw [bb_pos (by simp; omega), dd_pos hlt]
          have hPi : P i = true := by rw [hP]; simp [hi2]
          simp only [Tw.run_opt, orP_get h1, word_some h2, Option.bind_some, e0]
          rw [dd_pos hlt.1]
          simp only [Tw.run_opt, Option.bind_some]
          rw [dd_pos hlt]
          simp only [Tw.run_opt, Option.bind_some]
          by_cases hc : bOr .u32 (s.getD i 0) (a1.getD i 0) = s.getD i 0
          · rw [bb_neg (by simp only [hc]; simp), ← orP_keep (.inr hc)]
            rw [sameP, hPi, hc]
            simp [Tw.run_ret]
          · rw [bb_pos (by simpa using hc), dd_pos hlt]
            simp only [Tw.run_opt, Option.bind_some]
            rw [dd_pos hlt.1]
            simp only [Tw.run_opt, Option.bind_some]
            rw [dd_pos hlt]
            simp only [Tw.run_opt, Option.bind_some, Tw.run_ret]
            rw [orP_set h1 hPi, sameP, hPi, show (bOr .u32 (s.getD i 0) (a1.getD i 0) == s.getD i 0) = false from by simpa using hc]
            simp
      · simp only [law25_TableSure.l6, Tw.run_bb, Tw.run_ret, Nat.zero_add, orP_len]
        by_cases h : m < s.length
        · rw [if_pos (decide_eq_true (by omega)), if_neg (by rw [decide_eq_true_eq]; omega)]
        · rw [if_neg (by rw [decide_eq_true_eq]; omega)]
    have how : Words (orP P s a1 m) := orP_words hsw hu
    have hol : (orP P s a1 m).length = a0_2.length + 4 := by rw [orP_len, hL]
    have hT := table_Take_eq how (by omega)
    have hbad : sameP P s a1 m = false → takeT (orP P s a1 m) = noT := by
      intro hf
      have hne := sameP_ne (P := P) (u := a1) (show m ≤ s.length by omega) hf
      have h2 : (orP P s a1 m).getD 2 0 = s.getD 2 0 := by
        rw [orP_getD (by omega)]
        unfold raisP
        rw [if_neg (by rw [hP]; simp)]
      have hs2 : s.getD 2 0 = (a0_2.length : Int) := by
        rw [hs]
        show w32 (a0_2.length : Int) = _
        exact w32_of (by omega) (by omega)
      have hc : cntT (orP P s a1 m) = a0_2.length := by unfold cntT; rw [h2, hs2]; rfl
      have hb : ¬ badT (orP P s a1 m) := by
        rintro (h | h | h)
        · omega
        · rw [h2, hs2] at h; omega
        · rw [hc] at h; omega
      unfold takeT
      rw [if_neg hb, hc, List.take_of_length_le (by omega)]
      have hrb : rightB (orP P s a1 m) = false := by
        cases hx : rightB (orP P s a1 m) with
        | false => rfl
        | true =>
          have := sure_seal (A := s) (B := orP P s a1 m) orP_len.symm (by omega) (fun j hj => by
            rw [orP_getD hj]
            exact raisP_up hsw hu) (by rw [hs]; exact rightB_seal _) hx
          exact absurd this.symm hne
      rw [hrb, Bool.and_false]
      rfl
    rw [bb_neg (by rfl)]
    simp only [if_true, ← hs, Tw.run_opt, hLp, hT, Option.bind_some]
    cases hsm : sameP P s a1 m with
    | true =>
      rw [sameP_eq hsm, hts]
      simp only [Tw.run_opt, Tw.run_bb, Tw.run_ret, ref25_Same_eq a0_0 a0_1 a0_0 a0_1 a0_2 (show a0_2.length ≤ 140737488351232 by omega), Option.bind_some]
      simp
    | false =>
      rw [hbad hsm]
      rfl

end Go.Proofs.Ytcnomgpbkimmeaa.Pure
