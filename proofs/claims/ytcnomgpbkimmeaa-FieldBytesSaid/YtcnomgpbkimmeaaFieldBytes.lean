/- The plain truth of FieldBytes. -/
import Derived.Test.YtcnomgpbkimmeaaFlaw12
import Derived.Test.YtcnomgpbkimmeaaQAwake12
namespace Go.Proofs.Ytcnomgpbkimmeaa.Pure
open Go Go.Proofs.Ytcnomgpbkimmeaa.Va
set_option linter.unusedVariables false
set_option linter.unusedSimpArgs false

theorem FieldBytes (a0_0 : Int) (a0_1 : Int) (a0_2 : Int) (a0_3 : Int) (a0_4 : Int) (a1_0 : Int) (a1_1 : ByteArray) (a2 : List Int) (w0 : InR .i64 a0_0) (w1 : InR .i64 a0_1) (w2 : InR .i64 a0_2) (w3 : InR .i64 a0_3) (w4 : InR .i64 a0_4) (w5 : InR .i64 a1_0) (w6 : a1_1.size ≤ reachBytes) (w7 : a2.length * 1 ≤ reachBytes) (w8 : ∀ x9 ∈ a2, InR .u8 x9) : law12_FieldBytes.c a0_0 a0_1 a0_2 a0_3 a0_4 a1_0 a1_1 a2 = some true := by
  have hl : a2.length ≤ 140737488355328 := by rw [reach_eq] at w7; omega
  simp only [law12_FieldBytes.c, law12_FieldBytes.t, Tw.run_opt, field_Lay_eq, field_Take_eq a0_0 a0_1 a0_2 a0_3 a0_4 w8 hl, ref12_Right_eq, awake12, Option.bind_some]
  by_cases h : rgtF a0_0 a0_1 a0_2 a0_3 a0_4
  rotate_left
  · have ht : takF a0_0 a0_1 a0_2 a0_3 a0_4 a2 = (0, ByteArray.empty, 0, 2) := by unfold takF; rw [if_neg h]
    rw [decide_eq_false h, if_neg h, ht]
    simp [Tw.run_bb, Tw.run_opt, Tw.run_ret]
  rw [decide_eq_true h, if_pos h, bb_neg (by rfl)]
  simp only [Tw.run_opt, ref12_Take_eq h w8 hl, Option.bind_some, ref12_Has_eq]
  rw [bb_neg (by simp), bb_neg (by simp), bb_neg (by simp)]
  simp only [Tw.run_opt, Option.bind_some]
  by_cases hh : hasF a0_0 a0_1 a0_2 a0_3 a0_4 a1_0 a1_1
  · rw [decide_eq_true hh, if_pos hh, bb_neg (by rfl)]
    simp only [Tw.run_opt, ref12_Lay_eq hh, Option.bind_some]
    rw [bb_pos (by simp), bb_pos (by rfl)]
    rfl
  · rw [decide_eq_false hh, if_neg hh]
    rfl

end Go.Proofs.Ytcnomgpbkimmeaa.Pure
