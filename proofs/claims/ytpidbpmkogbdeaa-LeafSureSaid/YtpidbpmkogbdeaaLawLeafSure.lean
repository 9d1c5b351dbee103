/- The law instar/instarlaw23.LeafSure: whatever the arguments, it returns true, never panics, and its arguments read behind the call as before. -/
import Derived.Test.YtpidbpmkogbdeaaRows
import Derived.Test.YtpidbpmkogbdeaaFlaw23
import Derived.Test.YtpidbpmkogbdeaaVd
import Derived.Test.YtpidbpmkogbdeaaKn
import Derived.Test.YtpidbpmkogbdeaaLeafSure
namespace Go.Proofs.Ytpidbpmkogbdeaa.leafSure
open Go Go.Proofs.Ytpidbpmkogbdeaa.Va
open Go.ChangeShapes Go.WideShapes Go.ChangeAt Go.RowKit
set_option linter.unusedVariables false
theorem own : ownKnob Try.prog.godebug = none := by kernel_rfl
theorem laidOut : laidOutB Try.prog = true := by kernel_rfl
theorem plain (l : law23_LeafSure.TA) (h : wfA E0 [22, 23] law23_LeafSure.pA l.1) : (law23_LeafSure.t l.1.1 l.1.2.1).run = some true := by
  obtain ⟨⟨_, h1, h2⟩, ⟨_, h5, h6⟩, _⟩ := h
  exact Pure.LeafSure _ _ h1 (fun x2 hx => by obtain ⟨⟨_, h3⟩, h4, _⟩ := h2 x2 hx; exact ⟨h3, h4⟩) h5 (fun x6 hx => by obtain ⟨_, h7⟩ := h6 x6 hx; exact h7)
set_option maxRecDepth 100000 in
theorem lifted (os : Os) (started : os.Started) (H : Type) (enc : TypeId × Value → H) :
    ReturnsInHanded {} Try.checked os 5 .any (Rows.leafSureSpec.pre6 enc Try.prog Try.f5 Rows.leafSureRow.domain false) (Rows.leafSureSpec.post enc Try.prog Try.f5 false true false false) :=
  law_lifted (C := Try.checked) (E := E0) (E' := law23_LeafSure.E) (ct := ct) (p := law23_LeafSure.pA) (ts := [22, 23]) (tb := 4) (ms := []) (t := fun (l : law23_LeafSure.TA) => law23_LeafSure.t l.1.1 l.1.2.1) (v := law23_LeafSure.v) (hh := law23_LeafSure.hh)
    own started (by kernel_rfl) Try.func5 (ChangeSpec.witness6 (enc := enc) (C := Try.checked) false ⟨#[], #[.slice none 0 0, .slice none 0 0], []⟩ 8 (by kernel_rfl) (by kernel_rfl) (by kernel_rfl) (by kernel_rfl))
    laidOut (by kernel_rfl) (by kernel_rfl) Try.underlying4 rfl (fun ds h => by match ds, h with | [_, _], _ => rfl) (by kernel_rfl) E0_ok full_ok rfl (by kernel_rfl) (by kernel_rfl) law23_LeafSure.okF law23_LeafSure.hk (fun _ => rfl) plain
theorem over : Rows.leafSureRow.holds Try.pinned (OpenSpec.ofChange Rows.leafSureSpec) :=
  OpenClaim.holds_of_wide 5 Try.f5 rfl rfl rfl rfl rfl rfl rfl ⟨rfl, rfl, rfl, rfl, rfl⟩ rfl rfl rfl rfl rfl (by kernel_rfl) Try.func5 (Kn.closed_of (by kernel_rfl))
    (of_decide_eq_true (by kernel_rfl)) (by unfold Func.isWrapper; first | (rw [if_pos (by decide +kernel)]; kernel_rfl) | (rw [if_neg (by decide +kernel)]; exact ⟨rfl, rfl⟩))
    (fun os started H enc _ => lifted os started H enc)
end Go.Proofs.Ytpidbpmkogbdeaa.leafSure
namespace Go.Proofs.Ytpidbpmkogbdeaa
/-- The row, under a short name, for the claim. -/
theorem leafSure_holds : Rows.LeafSureSaid := leafSure.over
#print axioms leafSure_holds
end Go.Proofs.Ytpidbpmkogbdeaa
