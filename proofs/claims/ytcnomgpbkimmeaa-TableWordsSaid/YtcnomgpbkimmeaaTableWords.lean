/- The plain truth of TableWords. -/
import Derived.Test.YtcnomgpbkimmeaaFlaw25
import Derived.Test.YtcnomgpbkimmeaaQAwake25
namespace Go.Proofs.Ytcnomgpbkimmeaa.Pure
open Go Go.Proofs.Ytcnomgpbkimmeaa.Va
set_option linter.unusedVariables false
set_option linter.unusedSimpArgs false

theorem TableWords (a0_0 : Int) (a0_1 : Int) (a0_2 : List Int) (a1 : List Int) (w0 : InR .i64 a0_0) (w1 : InR .i64 a0_1) (w2 : a0_2.length * 8 ≤ reachBytes) (w3 : ∀ x4 ∈ a0_2, InR .i64 x4) (w4 : a1.length * 4 ≤ reachBytes) (w5 : ∀ x7 ∈ a1, InR .u32 x7) : law25_TableWords.c a0_0 a0_1 a0_2 a1 = some true := by
  have hl : a0_2.length ≤ 140737488351232 := by rw [reach_eq] at w2; omega
  simp only [law25_TableWords.c, law25_TableWords.t, awake25]
  by_cases h0 : (a0_2.length : Int) > 200
  · rw [bb_pos (decide_eq_true h0)]
    rfl
  rw [bb_neg (decide_eq_false h0)]
  have hS : table_Size.c ((a0_2.length : Nat) : Int) = some (if a0_2.length > 128 then 0 else (a0_2.length : Int) + 4) := by
    rw [table_Size_eq _ (inR_i64 (by omega))]
    congr 1
    by_cases h : a0_2.length > 128
    · rw [if_pos h, if_pos (by omega)]
    · rw [if_neg h, if_neg (by omega)]
  have hl1 : a1.length ≤ 35184372088832 := by rw [reach_eq] at w4; omega
  have hT := table_Take_eq w5 hl1
  have hR := ref25_Take_eq w5 hl1
  have hpl : (takeT a1).2.2.2.length ≤ 140737488351232 := by
    unfold takeT
    rw [reach_eq] at w4
    split
    · exact Nat.zero_le _
    · split
      · show (pagT a1).length ≤ _
        unfold pagT
        rw [List.length_take, List.length_drop]
        omega
      · exact Nat.zero_le _
  have hSm : ref25_Same.c (takeT a1).1 (takeT a1).2.1 (takeT a1).2.2.2 (takeT a1).1 (takeT a1).2.1 (takeT a1).2.2.2 = some true := by
    rw [ref25_Same_eq _ _ _ _ _ hpl, decide_eq_true ⟨rfl, rfl, rfl⟩]
  simp only [Tw.run_opt, table_Lay_eq a0_0 a0_1 w2, ref25_Right_eq a0_0 a0_1 hl, Option.bind_some]
  cases hr : rightT a0_0 a0_1 a0_2 with
  | false =>
    simp only [Tw.run_opt, Tw.run_bb, Tw.run_ret, hT, hR, hSm, table_Right_eq a0_0 a0_1 hl, ref25_Right_eq a0_0 a0_1 hl, Option.bind_some, hr]
    simp
  | true =>
    have hp := pages_le (right_parts hr).2
    have hL : (sealL (tabL a0_0 a0_1 a0_2)).length = a0_2.length + 4 := by unfold sealL; rw [List.length_append, tabL_len]; rfl
    simp only [if_true, Tw.run_opt, Tw.run_bb, Tw.run_ret, hT, hR, hSm, table_Right_eq a0_0 a0_1 hl, ref25_Right_eq a0_0 a0_1 hl, ref25_Lay_eq a0_0 a0_1 w2, ref01_Same_eq (show (sealL (tabL a0_0 a0_1 a0_2)).length ≤ 140737488351232 by omega), hS, Option.bind_some, hr, hL]
    rw [if_neg (show ¬ a0_2.length > 128 by omega)]
    simp

end Go.Proofs.Ytcnomgpbkimmeaa.Pure
