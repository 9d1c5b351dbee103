/- The plain truth of LeafWords. -/
import Derived.Test.YtpidbpmkogbdeaaFlaw23
import Derived.Test.YtpidbpmkogbdeaaQAwake23
namespace Go.Proofs.Ytpidbpmkogbdeaa.Pure
open Go Go.Proofs.Ytpidbpmkogbdeaa.Va
set_option linter.unusedVariables false
set_option linter.unusedSimpArgs false

theorem LeafWords (a0 : List ItemV) (a1 : Int) (a2 : List Int) (w0 : a0.length * 24 ≤ reachBytes) (w1 : ∀ x2 ∈ a0, InR .u32 x2.key ∧ x2.data.size ≤ reachBytes) (w2 : InR .i64 a1) (w3 : a2.length * 4 ≤ reachBytes) (w4 : ∀ x7 ∈ a2, InR .u32 x7) : law23_LeafWords.c a0 a1 a2 = some true := by
  simp only [law23_LeafWords.c, law23_LeafWords.t, awake23]
  by_cases g0 : (a0.length : Int) > 300
  · rw [bb_pos (decide_eq_true g0)]; rfl
  rw [bb_neg (decide_eq_false g0)]
  by_cases g1 : (a2.length : Int) > 2000
  · rw [bb_pos (decide_eq_true g1)]; rfl
  rw [bb_neg (decide_eq_false g1)]
  have hi : Its a0 := w1
  have ht := totI_le (l := a0) fun x hx => (w1 x hx).2
  have hm : 35184372087811 * a0.length ≤ 35184372087811 * 300 := Nat.mul_le_mul_left _ (by omega)
  have hT1 := leaf_Total_eq hi (show totI a0 < 4611686018427387904 by omega) (by omega)
  have hT2 := ref23_Total_eq hi (show totI a0 < 4611686018427387904 by omega) (by omega)
  have hK1 := leaf_Take_eq w4 (show a2.length ≤ 35184372088832 by omega) (Or.inr (by omega))
  have hK2 := ref23_Take_eq w4 (show a2.length ≤ 1000000 by omega)
  have hkl : (takL a2).2.length ≤ 140737488351232 := by
    unfold takL
    split
    · exact Nat.zero_le _
    · split
      · exact Nat.zero_le _
      · rename_i l r hp
        obtain ⟨p1, p2, _⟩ := parI_len hp
        rw [List.length_drop] at p2
        split
        · exact Nat.zero_le _
        · show l.length ≤ _
          omega
  have hS : ref18_Same.c (takL a2).2 (takL a2).2 = some true := by rw [ref18_Same_eq hkl, decide_eq_true rfl]
  have hR := leaf_Room_eq w2
  have hL := leaf_Lay_eq hi (show a0.length ≤ 300 by omega) w2
  have hM := ref23_May_eq (l := a0) (by omega)
  have hw := w2.i64
  have hlay : ∀ room : Int, (totI a0 : Int) ≤ room → (decide (0 < a0.length) && rightI a0) = true → layL a0 room = (0, leafL a0 ++ [zs (leafL a0)]) ∧ ref23_Lay.c a0 = some (leafL a0 ++ [zs (leafL a0)]) ∧ ref01_Same.c (leafL a0 ++ [zs (leafL a0)]) (leafL a0 ++ [zs (leafL a0)]) = some true := by
    intro room h1 h2
    rw [Bool.and_eq_true, decide_eq_true_iff] at h2
    have hs := rightI_small h2.2
    have ht64 := totI_le64 hs
    refine ⟨?_, ref23_Lay_eq hi hs (by omega), ?_⟩
    · unfold layL
      rw [if_neg (by rintro (h | h); omega; rw [h2.2] at h; cases h), if_neg (by omega)]
    · rw [ref01_Same_eq (by rw [List.length_append, leafL_len]; simp; omega), decide_eq_true rfl]
  have hno : ∀ room : Int, (decide (0 < a0.length) && rightI a0) = false → layL a0 room = (2, []) := by
    intro room h
    unfold layL
    rw [if_pos]
    rw [Bool.and_eq_false_iff, decide_eq_false_iff_not] at h
    rcases h with h | h
    · exact Or.inl (by omega)
    · exact Or.inr h
  have hfull : ∀ room : Int, (totI a0 : Int) > room → (decide (0 < a0.length) && rightI a0) = true → layL a0 room = (14, []) := by
    intro room h1 h2
    rw [Bool.and_eq_true, decide_eq_true_iff] at h2
    unfold layL
    rw [if_neg (by rintro (h | h); omega; rw [h2.2] at h; cases h), if_pos h1]
  by_cases g2 : a1 > 2
  · rw [if_pos g2] at hR hL
    have e2 : w64 (a1 - 2) = a1 - 2 := w64_of (by omega) (by omega)
    cases hmay : decide (0 < a0.length) && rightI a0 with
    | false =>
      rw [hmay] at hM
      rw [hno _ hmay] at hL
      simp [Tw.run_opt, Tw.run_bb, Tw.run_ret, hL, hM, hT1, hT2, hK1, hK2, hS, hR, e2, g2]
    | true =>
      rw [hmay] at hM
      by_cases g3 : (totI a0 : Int) > a1 - 2
      · rw [hfull _ g3 hmay] at hL
        simp [Tw.run_opt, Tw.run_bb, Tw.run_ret, hL, hM, hT1, hT2, hK1, hK2, hS, hR, e2, g2, g3]
      · obtain ⟨l1, l2, l3⟩ := hlay (a1 - 2) (by omega) hmay
        rw [l1] at hL
        simp [Tw.run_opt, Tw.run_bb, Tw.run_ret, hL, hM, hT1, hT2, hK1, hK2, hS, hR, e2, g2, g3, l2, l3]
  · rw [if_neg g2] at hR hL
    cases hmay : decide (0 < a0.length) && rightI a0 with
    | false =>
      rw [hmay] at hM
      rw [hno _ hmay] at hL
      simp [Tw.run_opt, Tw.run_bb, Tw.run_ret, hL, hM, hT1, hT2, hK1, hK2, hS, hR, g2]
    | true =>
      rw [hmay] at hM
      by_cases g3 : (totI a0 : Int) > 0
      · rw [hfull _ g3 hmay] at hL
        simp [Tw.run_opt, Tw.run_bb, Tw.run_ret, hL, hM, hT1, hT2, hK1, hK2, hS, hR, g2, show 0 < totI a0 by omega]
      · obtain ⟨l1, l2, l3⟩ := hlay 0 (by omega) hmay
        rw [l1] at hL
        simp [Tw.run_opt, Tw.run_bb, Tw.run_ret, hL, hM, hT1, hT2, hK1, hK2, hS, hR, g2, show totI a0 = 0 by omega, l2, l3]

end Go.Proofs.Ytpidbpmkogbdeaa.Pure
