/- The law instar/instarlaw23.LeafWords: whatever the arguments, it returns true, never panics, and its arguments read behind the call as before. -/
import Derived.Test.YtpidbpmkogbdeaaRows
import Derived.Test.YtpidbpmkogbdeaaFlaw23
import Derived.Test.YtpidbpmkogbdeaaVd
import Derived.Test.YtpidbpmkogbdeaaKn
import Derived.Test.YtpidbpmkogbdeaaLeafWords
namespace Go.Proofs.Ytpidbpmkogbdeaa.leafWords
open Go Go.Proofs.Ytpidbpmkogbdeaa.Va
open Go.ChangeShapes Go.WideShapes Go.ChangeAt Go.RowKit
set_option linter.unusedVariables false
theorem own : ownKnob Try.prog.godebug = none := by kernel_rfl
theorem laidOut : laidOutB Try.prog = true := by kernel_rfl
theorem plain (l : law23_LeafWords.TA) (h : wfA E0 [22, 3, 23] law23_LeafWords.pA l.1) : (law23_LeafWords.t l.1.1 l.1.2.1 l.1.2.2.1).run = some true := by
  obtain ⟨⟨_, h1, h2⟩, ⟨_, h5⟩, ⟨_, h6, h7⟩, _⟩ := h
  exact Pure.LeafWords _ _ _ h1 (fun x2 hx => by obtain ⟨⟨_, h3⟩, h4, _⟩ := h2 x2 hx; exact ⟨h3, h4⟩) h5 h6 (fun x7 hx => by obtain ⟨_, h8⟩ := h7 x7 hx; exact h8)
set_option maxRecDepth 100000 in
theorem lifted (os : Os) (started : os.Started) (H : Type) (enc : TypeId × Value → H) :
    ReturnsInHanded {} Try.checked os 3 .any (Rows.leafWordsSpec.pre6 enc Try.prog Try.f3 Rows.leafWordsRow.domain false) (Rows.leafWordsSpec.post enc Try.prog Try.f3 false true false false) :=
  law_lifted (C := Try.checked) (E := E0) (E' := law23_LeafWords.E) (ct := ct) (p := law23_LeafWords.pA) (ts := [22, 3, 23]) (tb := 4) (ms := []) (t := fun (l : law23_LeafWords.TA) => law23_LeafWords.t l.1.1 l.1.2.1 l.1.2.2.1) (v := law23_LeafWords.v) (hh := law23_LeafWords.hh)
    own started (by kernel_rfl) Try.func3 (ChangeSpec.witness6 (enc := enc) (C := Try.checked) false ⟨#[], #[.slice none 0 0, .int .i64 0, .slice none 0 0], []⟩ 8 (by kernel_rfl) (by kernel_rfl) (by kernel_rfl) (by kernel_rfl))
    laidOut (by kernel_rfl) (by kernel_rfl) Try.underlying4 rfl (fun ds h => by match ds, h with | [_, _, _], _ => rfl) (by kernel_rfl) E0_ok full_ok rfl (by kernel_rfl) (by kernel_rfl) law23_LeafWords.okF law23_LeafWords.hk (fun _ => rfl) plain
theorem over : Rows.leafWordsRow.holds Try.pinned (OpenSpec.ofChange Rows.leafWordsSpec) :=
  OpenClaim.holds_of_wide 3 Try.f3 rfl rfl rfl rfl rfl rfl rfl ⟨rfl, rfl, rfl, rfl, rfl⟩ rfl rfl rfl rfl rfl (by kernel_rfl) Try.func3 (Kn.closed_of (by kernel_rfl))
    (of_decide_eq_true (by kernel_rfl)) (by unfold Func.isWrapper; first | (rw [if_pos (by decide +kernel)]; kernel_rfl) | (rw [if_neg (by decide +kernel)]; exact ⟨rfl, rfl⟩))
    (fun os started H enc _ => lifted os started H enc)
end Go.Proofs.Ytpidbpmkogbdeaa.leafWords
namespace Go.Proofs.Ytpidbpmkogbdeaa
/-- The row, under a short name, for the claim. -/
theorem leafWords_holds : Rows.LeafWordsSaid := leafWords.over
#print axioms leafWords_holds
end Go.Proofs.Ytpidbpmkogbdeaa
