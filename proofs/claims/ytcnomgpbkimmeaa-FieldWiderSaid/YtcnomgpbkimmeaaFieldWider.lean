/- The plain truth of FieldWider. -/
import Derived.Test.YtcnomgpbkimmeaaFlaw12
import Derived.Test.YtcnomgpbkimmeaaQAwake12
namespace Go.Proofs.Ytcnomgpbkimmeaa.Pure
open Go Go.Proofs.Ytcnomgpbkimmeaa.Va
set_option linter.unusedVariables false
set_option linter.unusedSimpArgs false

theorem FieldWider (a0_0 : Int) (a0_1 : Int) (a0_2 : Int) (a0_3 : Int) (a0_4 : Int) (a1_0 : Int) (a1_1 : Int) (a1_2 : Int) (a1_3 : Int) (a1_4 : Int) (a2_0 : Int) (a2_1 : ByteArray) (w0 : InR .i64 a0_0) (w1 : InR .i64 a0_1) (w2 : InR .i64 a0_2) (w3 : InR .i64 a0_3) (w4 : InR .i64 a0_4) (w5 : InR .i64 a1_0) (w6 : InR .i64 a1_1) (w7 : InR .i64 a1_2) (w8 : InR .i64 a1_3) (w9 : InR .i64 a1_4) (w10 : InR .i64 a2_0) (w11 : a2_1.size ≤ reachBytes) : law12_FieldWider.c a0_0 a0_1 a0_2 a0_3 a0_4 a1_0 a1_1 a1_2 a1_3 a1_4 a2_0 a2_1 = some true := by
  have hself : decide (widr a0_0 a0_1 a0_2 a0_3 a0_4 a0_0 a0_1 a0_2 a0_3 a0_4) = decide (rgtF a0_0 a0_1 a0_2 a0_3 a0_4) := by
    rw [decide_eq_decide]
    exact ⟨fun h => h.1, fun h => ⟨h, h, rfl, Int.le_refl _, Int.le_refl _, Int.le_refl _⟩⟩
  have hleast : decide (hasF a0_0 a0_1 a0_2 a0_3 a0_4 (lstF a0_0 a0_1 a0_2 a0_3 a0_4).1 (lstF a0_0 a0_1 a0_2 a0_3 a0_4).2) = decide (rgtF a0_0 a0_1 a0_2 a0_3 a0_4) := by
    rw [decide_eq_decide]
    refine ⟨fun h => h.1, fun h => ?_⟩
    have : lstF a0_0 a0_1 a0_2 a0_3 a0_4 = (loF a0_1 a0_2, ByteArray.empty) := by unfold lstF; rw [if_pos h]
    rw [this]
    exact rgt_has h
  have hh : widr a0_0 a0_1 a0_2 a0_3 a0_4 a1_0 a1_1 a1_2 a1_3 a1_4 → hasF a0_0 a0_1 a0_2 a0_3 a0_4 a2_0 a2_1 → hasF a1_0 a1_1 a1_2 a1_3 a1_4 a2_0 a2_1 := by
    rintro ⟨_, h2, _, h4, h5, h6⟩ ⟨_, g2, g3, g4⟩
    exact ⟨h2, by omega, by omega, by omega⟩
  simp only [law12_FieldWider.c, law12_FieldWider.t, Tw.run_opt, Tw.run_bb, Tw.run_ret, field_Right_eq, field_Has_eq, field_Least_eq, field_Wider_eq, awake12, Option.bind_some, hself, hleast, beq_self_eq_true, if_true]
  by_cases h1 : widr a0_0 a0_1 a0_2 a0_3 a0_4 a1_0 a1_1 a1_2 a1_3 a1_4
  · rw [if_pos (decide_eq_true h1)]
    by_cases h2 : hasF a0_0 a0_1 a0_2 a0_3 a0_4 a2_0 a2_1
    · rw [if_pos (decide_eq_true h2), decide_eq_true (hh h1 h2)]
      rfl
    · rw [if_neg (by simpa using h2)]
  · rw [if_neg (by simpa using h1)]

end Go.Proofs.Ytcnomgpbkimmeaa.Pure
