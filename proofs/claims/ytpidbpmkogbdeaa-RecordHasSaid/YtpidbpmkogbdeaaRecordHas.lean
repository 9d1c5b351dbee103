/- The plain truth of RecordHas. -/
import Derived.Test.YtpidbpmkogbdeaaFlaw14
import Derived.Test.YtpidbpmkogbdeaaFlaw14RecordHas
import Derived.Test.YtpidbpmkogbdeaaQAwake14
namespace Go.Proofs.Ytpidbpmkogbdeaa.Pure
open Go Go.Proofs.Ytpidbpmkogbdeaa.Va
set_option linter.unusedVariables false
set_option linter.unusedSimpArgs false

theorem RecordHas (a0_0 : Int) (a0_1 : List FieldV) (a1_0 : Int) (a1_1 : List ValueV) (a2_0 : Int) (a2_1 : List ValueV) (w0 : InR .i64 a0_0) (w1 : a0_1.length * 40 ≤ reachBytes) (w2 : ∀ x3 ∈ a0_1, InR .i64 x3.id ∧ InR .i64 x3.kind ∧ InR .i64 x3.lo ∧ InR .i64 x3.hi ∧ InR .i64 x3.most) (w3 : InR .i64 a1_0) (w4 : a1_1.length * 24 ≤ reachBytes) (w5 : ∀ x11 ∈ a1_1, InR .i64 x11.n ∧ x11.s.size ≤ reachBytes) (w6 : InR .i64 a2_0) (w7 : a2_1.length * 24 ≤ reachBytes) (w8 : ∀ x16 ∈ a2_1, InR .i64 x16.n ∧ x16.s.size ≤ reachBytes) : law14_RecordHas.c a0_0 a0_1 a1_0 a1_1 a2_0 a2_1 = some true := by
  have hs := fun (d e : Int) (a b : List ValueV) (h : a.length ≤ 140737488355328) => record_Same_eq d e (a := a) (b := b) h
  simp only [law14_RecordHas.c, law14_RecordHas.t]
  rw [opt_some (law14_great_eq ..)]
  by_cases hg : 40 < a0_1.length ∨ 40 < a1_1.length
  · rw [decide_eq_true hg, bb_pos (by rfl), opt_some awake14, Tw.run_ret]
  rw [decide_eq_false hg, bb_neg (by rfl), opt_some (ref13_Fine_eq ..)]
  by_cases hf : fineF a0_0 a0_1
  · rw [decide_eq_true hf, bb_pos (by rfl), opt_some (ref14_First_eq (d := a0_0) (l := a0_1) (by omega)), opt_some (record_Has_eq a0_0 a1_0 (by omega)), opt_some (ref14_Has_eq a0_0 a1_0 (by omega)), bb_pos (by simp),
      opt_some (x := (a0_0, a0_1.map lstV)) (by rw [record_First_eq, if_pos hf]), opt_some (ref14_Same_eq a0_0 a0_0 (by rw [List.length_map]; omega)), bb_pos (by simp), opt_some (hs _ _ _ _ (by omega)), opt_some (ref14_Same_eq _ _ (by omega)), bb_pos (by simp),
      opt_some (hs _ _ _ _ (by omega)), bb_pos (by simp), opt_some awake14, Tw.run_ret]
  · rw [decide_eq_false hf, bb_neg (by rfl), opt_some (record_Has_eq a0_0 a1_0 (by omega)), opt_some (ref14_Has_eq a0_0 a1_0 (by omega)), bb_pos (by simp),
      opt_some (x := (0, [])) (by rw [record_First_eq, if_neg hf]), opt_some (ref14_Same0_eq ..), bb_pos (by simp), opt_some (hs _ _ _ _ (by omega)), opt_some (ref14_Same_eq _ _ (by omega)), bb_pos (by simp),
      opt_some (hs _ _ _ _ (by omega)), bb_pos (by simp), opt_some awake14, Tw.run_ret]

end Go.Proofs.Ytpidbpmkogbdeaa.Pure
