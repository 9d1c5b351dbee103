/- Layer 14: what must come at any rate, comes. -/
import Derived.Test.YtpidbpmkogbdeaaQRecord1
import Derived.Test.YtpidbpmkogbdeaaFlaw14
namespace Go.Proofs.Ytpidbpmkogbdeaa.Pure
open Go Go.Proofs.Ytpidbpmkogbdeaa.Va
set_option linter.unusedVariables false
set_option linter.unusedSimpArgs false

def awF : List FieldV := [⟨1, 2, 0, 0, 0⟩, ⟨2, 4, 0, 0, 3⟩]
def awV : List ValueV := [⟨1, ByteArray.empty⟩, ⟨0, ⟨#[97, 98]⟩⟩]
theorem awF_fine : fineF 5 awF := by
  refine ⟨by decide, by decide, ⟨?_, by decide⟩, ?_⟩
  · intro x hx
    have : x = ⟨1, 2, 0, 0, 0⟩ ∨ x = ⟨2, 4, 0, 0, 3⟩ := by simpa [awF] using hx
    rcases this with rfl | rfl <;> decide
  · have h1 := (sizV_le ⟨1, 2, 0, 0, 0⟩).2
    have h2 : sizV ⟨2, 4, 0, 0, 3⟩ = 4 := by decide
    have : lonL awF = sizV ⟨1, 2, 0, 0, 0⟩ + (sizV ⟨2, 4, 0, 0, 3⟩ + 0) := rfl
    omega
theorem awake14 : law14_awake.c = some true := by
  have w1 : wid 1 = 1 := by rw [wid_pos (by decide)]; simp [wid_zero]
  have hr : hasR 5 awF 5 awV := by
    refine ⟨awF_fine, rfl, ?_, ?_, trivial⟩
    · show hasF 1 2 0 0 0 1 ByteArray.empty
      decide
    · show hasF 2 4 0 0 3 0 ⟨#[97, 98]⟩
      decide
  have h1 : record_Lay.c 5 awF 5 awV = some (0, [1, 2, 97, 98]) := by
    rw [record_Lay_eq 5 5 (by decide), if_pos awF_fine, if_pos hr]
    have : layV ⟨1, 2, 0, 0, 0⟩ ⟨1, ByteArray.empty⟩ = [1] := by
      unfold layV layF widF
      rw [if_neg (by decide), show rngF 2 0 0 0 = 1 from by decide, w1]
      rfl
    show some ((0 : Int), layV ⟨1, 2, 0, 0, 0⟩ ⟨1, ByteArray.empty⟩ ++ (layV ⟨2, 4, 0, 0, 3⟩ ⟨0, ⟨#[97, 98]⟩⟩ ++ [])) = _
    rw [this]
    rfl
  have h2 : record_First.c 5 awF = some (5, awF.map lstV) := by rw [record_First_eq, if_pos awF_fine]
  simp only [law14_awake.c, law14_awake.t]
  rw [opt_some (x := (0, [1, 2, 97, 98])) (by exact h1), bb_pos (by rw [toList_eq, toList_eq]; rfl), bb_pos (by rfl), opt_some (x := (5, awF.map lstV)) (by exact h2), Tw.run_ret]
  rfl
theorem law14_great_eq (d e : Int) (l : List FieldV) (vs : List ValueV) : law14_great.c d l e vs = some (decide (40 < l.length ∨ 40 < vs.length)) := by
  simp only [law14_great.c, law14_great.t]
  by_cases h : ((l.length : Nat) : Int) > 40
  · rw [bb_pos (decide_eq_true h), Tw.run_ret, decide_eq_true (Or.inl (by omega))]
  · rw [bb_neg (decide_eq_false h), Tw.run_ret]
    congr 1
    rw [decide_eq_decide]
    omega

end Go.Proofs.Ytpidbpmkogbdeaa.Pure
