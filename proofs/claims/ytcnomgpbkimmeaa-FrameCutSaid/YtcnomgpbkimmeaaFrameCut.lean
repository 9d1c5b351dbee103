/- The plain truth of FrameCut. -/
import Derived.Test.YtcnomgpbkimmeaaFlaw10
import Derived.Test.YtcnomgpbkimmeaaQFrame
namespace Go.Proofs.Ytcnomgpbkimmeaa.Pure
open Go Go.Proofs.Ytcnomgpbkimmeaa.Va
set_option linter.unusedVariables false
set_option linter.unusedSimpArgs false

theorem FrameCut (a0_0 : Int) (a0_1 : Int) (a0_2 : List Int) (a1 : Int) (a2 : Int) (w0 : InR .i64 a0_0) (w1 : InR .i64 a0_1) (w2 : a0_2.length * 4 ≤ reachBytes) (w3 : ∀ x4 ∈ a0_2, InR .u32 x4) (w4 : InR .i64 a1) (w5 : InR .u32 a2) : law10_FrameCut.c a0_0 a0_1 a0_2 a1 a2 = some true := by
  simp only [law10_FrameCut.c, law10_FrameCut.t, awake10, Tw.run_opt, frame_Lay_eq a0_0 a0_1 w3 w2, ref10_Right_eq, Option.bind_some]
  by_cases hf : frP a0_0 a0_1 a0_2.length
  rotate_left
  · rw [if_neg hf, decide_eq_false hf, bb_pos (by rfl)]
    rfl
  obtain ⟨_, _, _, g1, g2⟩ := id hf
  obtain ⟨s, hs⟩ : ∃ s, s = sealW (fraL a0_0 a0_1 a0_2) := ⟨_, rfl⟩
  have hL : s.length = a0_2.length + 3 := by rw [hs]; unfold sealW; rw [List.length_append, fraL_len]; rfl
  have hsw : Words s := by rw [hs]; exact words_append (fraL_words hf w3) (words_cons (zs_u32 _) words_nil)
  rw [if_pos hf, bb_neg (by rfl)]
  show (Tw.bb _ _ _).run = _
  rw [← hs]
  by_cases h0 : a1 < 0
  · rw [bb_pos (decide_eq_true h0)]
    rfl
  rw [bb_neg (decide_eq_false h0)]
  by_cases h1 : a1 ≥ (s.length : Int)
  · rw [bb_pos (decide_eq_true h1)]
    rfl
  rw [bb_neg (decide_eq_false h1)]
  obtain ⟨n, rfl⟩ := Int.eq_ofNat_of_zero_le (show 0 ≤ a1 by omega)
  have hn : n < s.length := by omega
  have et : List.take (n - 0) (List.drop 0 s) = s.take n := rfl
  have htl : (s.take n).length = n := by rw [List.length_take]; omega
  have e1 : w64 ((s.length : Int) - 1) = ((a0_2.length + 2 : Nat) : Int) := by rw [w64_of (by omega) (by omega)]; omega
  simp only [Int.toNat_natCast, et, e1]
  rw [dd_pos (by omega), dd_pos (by simp only [Int.toNat_natCast, et, htl]; omega), dd_pos (by omega)]
  simp only [Tw.run_opt, word_some hn, Option.bind_some]
  rw [dd_pos (by simp only [Int.toNat_natCast, et, htl, List.length_cons, List.length_nil]; omega)]
  obtain ⟨x, hx⟩ : ∃ x, x = bOr .u32 (s.getD n 0) a2 := ⟨_, rfl⟩
  rw [← hx]
  have hxu : Up (s.getD n 0) x := by rw [hx]; exact Up.or (word_range hsw n) w5.u32
  obtain ⟨T, hT⟩ : ∃ T, T = s.take n ++ [x] ++ List.replicate (99 - n) 4294967295 := ⟨_, rfl⟩
  have hTl : T.length = 100 := by rw [hT]; simp; omega
  have hTw : Words T := by
    rw [hT]
    refine words_append (words_append (words_take hsw n) (words_cons (inR_u32 hxu.1) words_nil)) fun y hy => ?_
    rw [List.eq_of_mem_replicate hy]
    exact by decide
  have hLp : law10_FrameCut.L9 (n : Int) x s (s.take n ++ [x]) = some T := by
    have := Lp_seq (fun q => (law10_FrameCut.l9 (n : Int) x s q).run) (fun i => s.take n ++ [x] ++ List.replicate i 4294967295) (x := T) (99 - n) 0 (fun i _ hi => ?_) ?_
    · rw [List.replicate_zero, List.append_nil] at this
      exact this
    · have hlen : (s.take n ++ [x] ++ List.replicate i (4294967295 : Int)).length = n + 1 + i := by simp; omega
      simp only [law10_FrameCut.l9]
      rw [bb_pos (decide_eq_true (by rw [hlen]; omega)), dd_pos (by rw [hlen]; simp only [List.length_cons, List.length_nil]; omega)]
      rw [List.replicate_succ', ← List.append_assoc]
      rfl
    · have hlen : (s.take n ++ [x] ++ List.replicate (99 - n) (4294967295 : Int)).length = 100 := by simp; omega
      simp only [law10_FrameCut.l9, Nat.zero_add]
      rw [bb_neg (decide_eq_false (by rw [hlen]; omega)), hT]
      rfl
  have hfill : ∀ j, n < j → j < 100 → T.getD j 0 = 4294967295 := by
    intro j hj hj2
    rw [hT, List.getD_eq_getElem?_getD, List.getElem?_append_right (by simp; omega), List.getElem?_replicate, if_pos (by simp; omega)]
    rfl
  have hno : ∀ k, n < k + 2 → k ≤ 56 → rightB (T.take (k + 3)) = false := by
    intro k hk hk2
    unfold rightB
    have hz := zsum_le ((T.take (k + 3)).take (k + 2))
    rw [List.length_take, List.length_take, hTl] at hz
    have e : (T.take (k + 3)).length - 1 = k + 2 := by rw [List.length_take, hTl]; omega
    rw [e]
    have e2 : (T.take (k + 3)).getD (k + 2) 0 = 4294967295 := by
      rw [List.getD_eq_getElem?_getD, List.getElem?_take, if_pos (by omega), ← List.getD_eq_getElem?_getD]
      exact hfill _ hk (by omega)
    rw [e2]
    unfold zs
    rw [show ((4294967295 : Int) == ((zsum ((T.take (k + 3)).take (k + 2)) % 4294967296 : Nat) : Int)) = false from by
      rw [beq_eq_false_iff_ne]
      omega, Bool.and_false]
  have hT0 : 0 < n → T.getD 0 0 = twin (a0_2.length : Int) := fun h => by
    have h1 : T.getD 0 0 = s.getD 0 0 := by
      rw [hT, List.getD_eq_getElem?_getD, List.append_assoc, List.getElem?_append_left (by omega), List.getElem?_take, if_pos h, ← List.getD_eq_getElem?_getD]
    rw [h1, hs]
    rfl
  have hlen : 0 < n → lenF T = a0_2.length := fun h => by
    unfold lenF
    rw [hT0 h, toldR_twin (n := (a0_2.length : Int)) (by omega) (by omega)]
    rfl
  have hr : (readF T).2.2.2.1 = (decide (n = a0_2.length + 2) && (x == s.getD n 0)) := by
    by_cases hl : n = a0_2.length + 2
    · have hl' := hlen (by omega)
      have hTs : T.take (a0_2.length + 3) = s.take n ++ [x] := by
        rw [hT, List.take_append_of_le_length (by simp; omega), List.take_of_length_le (by simp; omega)]
      have hsn : s.take n = fraL a0_0 a0_1 a0_2 := by
        rw [hs, hl]
        unfold sealW
        rw [List.take_append_of_le_length (by rw [fraL_len]; omega), List.take_of_length_le (by rw [fraL_len]; omega)]
      have hsg : s.getD n 0 = zs (fraL a0_0 a0_1 a0_2) := by
        rw [hs, hl]
        unfold sealW
        rw [List.getD_eq_getElem?_getD, List.getElem?_append_right (by rw [fraL_len]; omega), fraL_len, Nat.sub_self]
        rfl
      have hT1 : T.getD 1 0 = a0_0 * 1073741824 + a0_1 := by
        rw [hT, hsn]
        rfl
      have hR : rightB (T.take (lenF T + 3)) = (x == s.getD n 0) := by
        rw [hl', hTs, hsn, hsg]
        unfold rightB
        rw [List.length_append, List.length_singleton, Nat.add_sub_cancel, List.getD_eq_getElem?_getD, List.getElem?_append_right (Nat.le_refl _), Nat.sub_self]
        simp
      obtain ⟨f1, f2, f3, f4, f5⟩ := id hf
      have hm : mayF T := ⟨by rw [hT0 (by omega), toldR_twin (n := (a0_2.length : Int)) (by omega) (by omega)], by omega, by omega, by omega⟩
      rw [decide_eq_true hl, Bool.true_and, ← hR]
      unfold readF
      cases hx : rightB (T.take (lenF T + 3)) with
      | true =>
        rw [if_pos ⟨hm, by rw [hT1]; omega, by rw [hT1]; omega, hx⟩]
      | false =>
        rw [if_neg (by rintro ⟨_, _, _, h⟩; rw [hx] at h; cases h)]
        rfl
    · rw [decide_eq_false hl, Bool.false_and]
      unfold readF
      rw [if_neg]
      · rfl
      rintro ⟨⟨ht, hb1, hb2, hb3⟩, _, _, hrr⟩
      by_cases hn0 : 0 < n
      · rw [hlen hn0] at hrr
        rw [hno a0_2.length (by omega) (by omega)] at hrr
        cases hrr
      · rw [hno (lenF T) (by omega) (by omega)] at hrr
        cases hrr
  simp only [Tw.run_opt, hLp, frame_Read_eq hTw (show T.length ≤ 35184372088832 by omega), Option.bind_some]
  by_cases hl : n = a0_2.length + 2
  · rw [bb_pos (by simp; omega), dd_pos (by omega)]
    simp only [Tw.run_opt, word_some hn, Option.bind_some]
    rw [hr, decide_eq_true hl, Bool.true_and, bb_pos (by simp)]
    rfl
  · rw [bb_neg (by rw [beq_eq_false_iff_ne]; omega), hr, decide_eq_false hl, bb_pos (by rfl)]
    rfl

end Go.Proofs.Ytcnomgpbkimmeaa.Pure
