/- The plain truth of FrameWords. -/
import Derived.Test.YtcnomgpbkimmeaaFlaw10
import Derived.Test.YtcnomgpbkimmeaaQFrame
namespace Go.Proofs.Ytcnomgpbkimmeaa.Pure
open Go Go.Proofs.Ytcnomgpbkimmeaa.Va
set_option linter.unusedVariables false
set_option linter.unusedSimpArgs false

theorem FrameWords (a0_0 : Int) (a0_1 : Int) (a0_2 : List Int) (a1 : List Int) (w0 : InR .i64 a0_0) (w1 : InR .i64 a0_1) (w2 : a0_2.length * 4 ≤ reachBytes) (w3 : ∀ x4 ∈ a0_2, InR .u32 x4) (w4 : a1.length * 4 ≤ reachBytes) (w5 : ∀ x7 ∈ a1, InR .u32 x7) : law10_FrameWords.c a0_0 a0_1 a0_2 a1 = some true := by
  have hl1 : a1.length ≤ 35184372088832 := by rw [reach_eq] at w4; omega
  have hR := frame_Read_eq w5 hl1
  have hR2 := ref10_Read_eq w5 hl1
  have hn : 0 ≤ (readF a1).2.2.1 ∧ (readF a1).2.2.1 ≤ 59 := by
    unfold readF
    split
    · rename_i h
      obtain ⟨_, _, h, _⟩ := h.1
      show 0 ≤ (lenF a1 : Int) + 3 ∧ (lenF a1 : Int) + 3 ≤ 59
      omega
    · exact ⟨Int.le_refl _, by decide⟩
  have hlen : (readF a1).2.2.2.2.length ≤ 140737488351232 := by
    unfold readF
    split
    · show (loadF a1).length ≤ _
      unfold loadF
      rw [List.length_take, List.length_drop]
      omega
    · exact Nat.zero_le _
  have hS : ref10_Same.c (readF a1).1 (readF a1).2.1 (readF a1).2.2.2.2 (readF a1).1 (readF a1).2.1 (readF a1).2.2.2.2 = some true := by
    rw [ref10_Same_eq _ _ _ _ _ hlen, decide_eq_true ⟨rfl, rfl, rfl⟩]
  have hZ := frame_Size_eq (readF a1).2.2.1 (inR_i64 (by omega))
  have hZ0 := frame_Size_eq (a0_2.length : Int) (inR_i64 (by rw [reach_eq] at w2; omega))
  simp only [law10_FrameWords.c, law10_FrameWords.t, awake10, Tw.run_opt, frame_Lay_eq a0_0 a0_1 w3 w2, ref10_Right_eq, Option.bind_some]
  have tail : (Tw.bb (decide ((readF a1).2.2.1 < 1))
          (Tw.bb (((if (readF a1).2.2.1 < 1 ∨ (readF a1).2.2.1 > 56 then (0 : Int) else (readF a1).2.2.1 + 3) == 0) == true) (Tw.opt (some true) fun z => Tw.ret z) (Tw.ret false))
          (Tw.bb (((if (readF a1).2.2.1 < 1 ∨ (readF a1).2.2.1 > 56 then (0 : Int) else (readF a1).2.2.1 + 3) == 0) == decide ((readF a1).2.2.1 > 56)) (Tw.opt (some true) fun z => Tw.ret z) (Tw.ret false))).run = some true := by
    by_cases h1 : (readF a1).2.2.1 < 1
    · rw [bb_pos (decide_eq_true h1), if_pos (Or.inl h1), bb_pos (by rfl)]
      rfl
    · rw [bb_neg (decide_eq_false h1)]
      by_cases h2 : (readF a1).2.2.1 > 56
      · rw [if_pos (Or.inr h2), decide_eq_true h2, bb_pos (by rfl)]
        rfl
      · rw [if_neg (by omega), decide_eq_false h2, bb_pos (by simp; omega)]
        rfl
  by_cases hf : frP a0_0 a0_1 a0_2.length
  · have hL : (sealW (fraL a0_0 a0_1 a0_2)).length = a0_2.length + 3 := by unfold sealW; rw [List.length_append, fraL_len]; rfl
    have hSm : ref01_Same.c (sealW (fraL a0_0 a0_1 a0_2)) (sealW (fraL a0_0 a0_1 a0_2)) = some true := by
      rw [ref01_Same_eq (by obtain ⟨_, _, _, _, h⟩ := hf; omega), decide_eq_true rfl]
    obtain ⟨_, _, _, g1, g2⟩ := id hf
    rw [decide_eq_true hf, if_pos hf, bb_pos rfl, bb_neg (by rfl)]
    simp only [Tw.run_opt, ref10_Lay_eq hf w3, Option.bind_some, hSm]
    rw [bb_neg (by rfl)]
    simp only [Tw.run_opt, hZ0, Option.bind_some, hL]
    rw [if_neg (by omega), bb_neg (by simp), hR]
    simp only [Tw.run_opt, hR2, Option.bind_some, hS]
    rw [bb_pos rfl, bb_pos (by simp), bb_pos (by simp)]
    simp only [Tw.run_opt, hZ, Option.bind_some]
    exact tail
  · rw [decide_eq_false hf, if_neg hf, bb_neg rfl, bb_neg (by rfl), bb_neg (by rfl)]
    simp only [Tw.run_opt, hR, hR2, Option.bind_some, hS]
    rw [bb_pos rfl, bb_pos (by simp), bb_pos (by simp)]
    simp only [Tw.run_opt, hZ, Option.bind_some]
    exact tail

end Go.Proofs.Ytcnomgpbkimmeaa.Pure
