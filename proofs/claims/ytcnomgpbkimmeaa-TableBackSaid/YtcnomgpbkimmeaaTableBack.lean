/- The plain truth of TableBack. -/
import Derived.Test.YtcnomgpbkimmeaaFlaw25
import Derived.Test.YtcnomgpbkimmeaaQAwake25
namespace Go.Proofs.Ytcnomgpbkimmeaa.Pure
open Go Go.Proofs.Ytcnomgpbkimmeaa.Va
set_option linter.unusedVariables false
set_option linter.unusedSimpArgs false

theorem TableBack (a0_0 : Int) (a0_1 : Int) (a0_2 : List Int) (a1 : List Int) (w0 : InR .i64 a0_0) (w1 : InR .i64 a0_1) (w2 : a0_2.length * 8 ≤ reachBytes) (w3 : ∀ x4 ∈ a0_2, InR .i64 x4) (w4 : a1.length * 4 ≤ reachBytes) (w5 : ∀ x7 ∈ a1, InR .u32 x7) : law25_TableBack.c a0_0 a0_1 a0_2 a1 = some true := by
  simp only [law25_TableBack.c, law25_TableBack.t, awake25, Tw.run_opt, table_Lay_eq a0_0 a0_1 w2, Option.bind_some]
  cases hr : rightT a0_0 a0_1 a0_2 with
  | false => rfl
  | true =>
    have hp := pages_le (right_parts hr).2
    have hL : (sealL (tabL a0_0 a0_1 a0_2)).length = a0_2.length + 4 := by unfold sealL; rw [List.length_append, tabL_len]; rfl
    have hw : Words (sealL (tabL a0_0 a0_1 a0_2) ++ a1) := words_append (words_append (tabL_words _ _ _) (words_cons (zs_inR _) words_nil)) w5
    have hT : table_Take.c (sealL (tabL a0_0 a0_1 a0_2) ++ a1) = some (a0_0, a0_1, 0, a0_2) := by
      rw [← take_seal hr a1]
      refine table_Take_eq hw ?_
      rw [reach_eq] at w4
      rw [List.length_append, hL]
      omega
    simp only [if_true]
    rw [bb_neg (by rfl), dd_pos (by rw [if_pos rfl]; show (sealL _).length * 4 ≤ _ ∧ (sealL _).length ≤ _; rw [hL]; omega), dd_pos (by rw [if_pos rfl]; show ((sealL _).length + _) * 4 ≤ _ ∧ (sealL _).length + _ ≤ _; rw [hL]; rw [reach_eq] at w4; omega)]
    simp only [Tw.run_opt, Tw.run_bb, Tw.run_ret, hT, ref25_Same_eq a0_0 a0_1 a0_0 a0_1 a0_2 (show a0_2.length ≤ 140737488351232 by omega), Option.bind_some]
    simp

end Go.Proofs.Ytcnomgpbkimmeaa.Pure
