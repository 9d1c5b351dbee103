/- The plain truth of FrameBack. -/
import Derived.Test.YtcnomgpbkimmeaaFlaw10
import Derived.Test.YtcnomgpbkimmeaaQFrame
namespace Go.Proofs.Ytcnomgpbkimmeaa.Pure
open Go Go.Proofs.Ytcnomgpbkimmeaa.Va
set_option linter.unusedVariables false
set_option linter.unusedSimpArgs false

theorem FrameBack (a0_0 : Int) (a0_1 : Int) (a0_2 : List Int) (a1 : List Int) (w0 : InR .i64 a0_0) (w1 : InR .i64 a0_1) (w2 : a0_2.length * 4 ≤ reachBytes) (w3 : ∀ x4 ∈ a0_2, InR .u32 x4) (w4 : a1.length * 4 ≤ reachBytes) (w5 : ∀ x7 ∈ a1, InR .u32 x7) : law10_FrameBack.c a0_0 a0_1 a0_2 a1 = some true := by
  simp only [law10_FrameBack.c, law10_FrameBack.t, awake10, Tw.run_opt, frame_Lay_eq a0_0 a0_1 w3 w2, ref10_Right_eq, Option.bind_some]
  by_cases hf : frP a0_0 a0_1 a0_2.length
  rotate_left
  · rw [if_neg hf, decide_eq_false hf, bb_pos (by rfl)]
    rfl
  obtain ⟨_, _, _, g1, g2⟩ := id hf
  have hL : (sealW (fraL a0_0 a0_1 a0_2)).length = a0_2.length + 3 := by unfold sealW; rw [List.length_append, fraL_len]; rfl
  have hw : Words (sealW (fraL a0_0 a0_1 a0_2) ++ a1) := words_append (words_append (fraL_words hf w3) (words_cons (zs_u32 _) words_nil)) w5
  have hT : frame_Read.c (sealW (fraL a0_0 a0_1 a0_2) ++ a1) = some (a0_0, a0_1, (a0_2.length : Int) + 3, true, a0_2) := by
    rw [← read_seal hf a1]
    refine frame_Read_eq hw ?_
    rw [reach_eq] at w4
    rw [List.length_append, hL]
    omega
  rw [if_pos hf, bb_neg (by rfl), dd_pos (by show (sealW _).length * 4 ≤ _ ∧ (sealW _).length ≤ _; rw [hL]; omega), dd_pos (by show ((sealW _).length + _) * 4 ≤ _ ∧ (sealW _).length + _ ≤ _; rw [hL]; rw [reach_eq] at w4; omega)]
  simp only [Tw.run_opt, Tw.run_bb, Tw.run_ret, hT, ref10_Same_eq a0_0 a0_1 a0_0 a0_1 a0_2 (show a0_2.length ≤ 140737488351232 by omega), Option.bind_some, hL]
  simp

end Go.Proofs.Ytcnomgpbkimmeaa.Pure
