/- The plain truth of RecordBytes. -/
import Derived.Test.YtpidbpmkogbdeaaFlaw14
import Derived.Test.YtpidbpmkogbdeaaFlaw14RecordBytes
import Derived.Test.YtpidbpmkogbdeaaQAwake14
namespace Go.Proofs.Ytpidbpmkogbdeaa.Pure
open Go Go.Proofs.Ytpidbpmkogbdeaa.Va
set_option linter.unusedVariables false
set_option linter.unusedSimpArgs false

theorem RecordBytes (a0_0 : Int) (a0_1 : List FieldV) (a1_0 : Int) (a1_1 : List ValueV) (a2 : List Int) (w0 : InR .i64 a0_0) (w1 : a0_1.length * 40 ≤ reachBytes) (w2 : ∀ x3 ∈ a0_1, InR .i64 x3.id ∧ InR .i64 x3.kind ∧ InR .i64 x3.lo ∧ InR .i64 x3.hi ∧ InR .i64 x3.most) (w3 : InR .i64 a1_0) (w4 : a1_1.length * 24 ≤ reachBytes) (w5 : ∀ x11 ∈ a1_1, InR .i64 x11.n ∧ x11.s.size ≤ reachBytes) (w6 : a2.length * 1 ≤ reachBytes) (w7 : ∀ x15 ∈ a2, InR .u8 x15) : law14_RecordBytes.c a0_0 a0_1 a1_0 a1_1 a2 = some true := by
  simp only [law14_RecordBytes.c, law14_RecordBytes.t]
  have rb := reach_eq
  rw [opt_some (law14_great_eq ..)]
  by_cases hg : 40 < a0_1.length ∨ 40 < a1_1.length
  · rw [decide_eq_true hg, bb_pos (by rfl), opt_some awake14, Tw.run_ret]
  rw [decide_eq_false hg, bb_neg (by rfl), opt_some (record_Lay_eq a0_0 a1_0 (by omega)), opt_some (record_Take_eq a0_0 w7 (show a2.length ≤ 140737488355328 by omega)), opt_some (ref13_Fine_eq ..)]
  by_cases hf : fineF a0_0 a0_1
  rotate_left
  · rw [if_neg hf, if_neg hf, decide_eq_false hf, bb_pos (by rfl), bb_pos (by rfl), bb_pos (by rfl), opt_some (ref14_Same0_eq ..), bb_pos (by simp), bb_pos (by rfl), opt_some awake14, Tw.run_ret]
  have htl : (tkR a0_0 a0_1 a2).2.2.length ≤ 1000 := tkR_len hf w7
  rw [if_pos hf, if_pos hf, decide_eq_true hf, bb_neg (by rfl), opt_some (ref14_Take_eq hf w7 (show a2.length ≤ 140737488355328 by omega)), opt_some (ref14_Same_eq _ _ (by omega)), bb_neg (by simp), bb_neg (by simp), opt_some (ref14_Has_eq a0_0 a1_0 (by omega))]
  by_cases hr : hasR a0_0 a0_1 a1_0 a1_1
  · rw [if_pos hr, decide_eq_true hr, bb_neg (by rfl), opt_some (ref14_Lay_eq hr), bb_pos (by simp), bb_pos (by rfl), opt_some awake14, Tw.run_ret]
  · rw [if_neg hr, decide_eq_false hr, bb_pos (by rfl), bb_pos (by rfl), bb_pos (by rfl), opt_some awake14, Tw.run_ret]

end Go.Proofs.Ytpidbpmkogbdeaa.Pure
