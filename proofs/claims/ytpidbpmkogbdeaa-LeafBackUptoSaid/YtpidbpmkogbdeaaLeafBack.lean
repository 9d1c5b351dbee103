/- The plain truth of LeafBack. -/
import Derived.Test.YtpidbpmkogbdeaaFlaw23
import Derived.Test.YtpidbpmkogbdeaaQAwake23
namespace Go.Proofs.Ytpidbpmkogbdeaa.Pure
open Go Go.Proofs.Ytpidbpmkogbdeaa.Va
set_option linter.unusedVariables false
set_option linter.unusedSimpArgs false

theorem bk_sl3' : ∀ l : List Int, bk E0 2 (.slice 3 l) = l.length + 1 := by
  intro l
  show (l.map fun _ => 1 + 0).sum + 1 = l.length + 1
  induction l with
  | nil => rfl
  | cons x l ih => simp only [List.map_cons, List.sum_cons, List.length_cons] at *; omega

theorem LeafBack (a0 : List ItemV) (a1 : List Int) (w0 : a0.length * 24 ≤ reachBytes) (w1 : ∀ x2 ∈ a0, InR .u32 x2.key ∧ x2.data.size ≤ reachBytes) (w2 : a1.length * 4 ≤ reachBytes) (w3 : ∀ x6 ∈ a1, InR .u32 x6) (wb : ∀ k, bkL E0 k [.slice 10 a0, .slice 3 a1] ≤ 1048576) : law23_LeafBack.c a0 a1 = some true := by
  simp only [law23_LeafBack.c, law23_LeafBack.t, awake23]
  by_cases g0 : (a0.length : Int) > 300
  · rw [bb_pos (decide_eq_true g0)]; rfl
  rw [bb_neg (decide_eq_false g0)]
  have hi : Its a0 := w1
  have hb := wb 2
  simp only [bkL, List.map_cons, List.map_nil, List.sum_cons, List.sum_nil, bk_sl3'] at hb
  have hm : a1.length ≤ 1048576 := by omega
  simp only [Tw.run_opt, leaf_Lay_eq hi (show a0.length ≤ 300 by omega) (show InR .i64 1048576 by decide), ref23_May_eq (show a0.length ≤ 140737488351232 by omega), Option.bind_some]
  rw [if_pos (show (1048576 : Int) > 2 by decide)]
  unfold layL
  by_cases g1 : a0.length = 0 ∨ rightI a0 = false
  · rw [if_pos g1, bb_pos (by rfl)]
    have : (decide (0 < a0.length) && rightI a0) = false := by
      rcases g1 with h | h
      · rw [decide_eq_false (by omega)]; rfl
      · rw [h, Bool.and_false]
    rw [this]
    rfl
  have g2 : 0 < a0.length := by omega
  have g3 : rightI a0 = true := by
    cases h : rightI a0 with
    | true => rfl
    | false => exact absurd (Or.inr h) g1
  have hs := rightI_small g3
  have ht := totI_le64 hs
  have hL : (leafL a0 ++ [zs (leafL a0)]).length = totI a0 + 2 := by rw [List.length_append, leafL_len]; rfl
  rw [if_neg g1, if_neg (by omega), bb_neg (by rfl), dd_pos (by show (leafL a0 ++ _).length * 4 ≤ _ ∧ (leafL a0 ++ _).length ≤ _; rw [hL]; omega), dd_pos (by show ((leafL a0 ++ _).length + _) * 4 ≤ _ ∧ (leafL a0 ++ _).length + _ ≤ _; rw [hL]; omega)]
  have hw : Words (leafL a0 ++ [zs (leafL a0)] ++ a1) := words_append (words_append (leafL_words hi hs (by omega)) (words_cons (inR_u32 (by unfold zs; omega)) words_nil)) w3
  have hT : leaf_Take.c (leafL a0 ++ [zs (leafL a0)] ++ a1) = some (0, a0) := by
    rw [← takL_lay g2 g3 (by omega) a1]
    refine leaf_Take_eq hw (by rw [List.length_append, hL]; omega) (Or.inl ?_)
    show (a0.length : Int) ≤ _
    omega
  have e2 : w64 (((totI a0 : Nat) : Int) + 2) = ((totI a0 + 2 : Nat) : Int) := by rw [w64_of (by omega) (by omega)]; omega
  simp only [Tw.run_opt, hT, Option.bind_some, ref18_Same_eq (show a0.length ≤ 140737488351232 by omega), leaf_Total_eq hi (show totI a0 < 4611686018427387904 by omega) (show a0.length < 4611686018427387904 by omega), hL, e2]
  rw [bb_pos (by simp), bb_pos (by rfl)]
  simp only [Tw.run_opt, Option.bind_some, e2]
  rw [bb_pos (by simp)]
  rfl

end Go.Proofs.Ytpidbpmkogbdeaa.Pure
