/- The law instar/instarlaw07.FlashPlays: whatever the arguments, it returns true, never panics, and its arguments read behind the call as before. -/
import Derived.Test.YtpidbpmkogbdeaaRows
import Derived.Test.YtpidbpmkogbdeaaFlaw07FlashPlays
import Derived.Test.YtpidbpmkogbdeaaVd
import Derived.Test.YtpidbpmkogbdeaaKn
import Derived.Test.YtpidbpmkogbdeaaFlashPlays
namespace Go.Proofs.Ytpidbpmkogbdeaa.flashPlays
open Go Go.Proofs.Ytpidbpmkogbdeaa.Va
open Go.ChangeShapes Go.WideShapes Go.ChangeAt Go.RowKit
set_option linter.unusedVariables false
theorem own : ownKnob Try.prog.godebug = none := by kernel_rfl
theorem laidOut : laidOutB Try.prog = true := by kernel_rfl
theorem plain (l : law07_FlashPlays.TA) (h : wfA E0 [64, 45] law07_FlashPlays.pA l.1) : (law07_FlashPlays.t l.1.1.1 l.1.1.2.1 l.1.2.1).run = some true := by
  obtain ⟨⟨⟨_, h1⟩, ⟨_, h2⟩, _⟩, ⟨_, h3, h4⟩, _⟩ := h
  exact Pure.FlashPlays _ _ _ h1 h2 h3 (fun x4 hx => by obtain ⟨⟨_, h5⟩, ⟨_, h6⟩, ⟨_, h7⟩, ⟨_, h8, h9⟩, _⟩ := h4 x4 hx; exact ⟨h5, h6, h7, h8, (fun x9 hx => by obtain ⟨_, h10⟩ := h9 x9 hx; exact h10)⟩)
set_option maxRecDepth 100000 in
theorem lifted (os : Os) (started : os.Started) (H : Type) (enc : TypeId × Value → H) :
    ReturnsInHanded {} Try.checked os 8 .any (Rows.flashPlaysSpec.pre6 enc Try.prog Try.f8 Rows.flashPlaysRow.domain false) (Rows.flashPlaysSpec.post enc Try.prog Try.f8 false true false false) :=
  law_lifted (C := Try.checked) (E := E0) (E' := law07_FlashPlays.E) (ct := ct) (p := law07_FlashPlays.pA) (ts := [64, 45]) (tb := 4) (ms := []) (t := fun (l : law07_FlashPlays.TA) => law07_FlashPlays.t l.1.1.1 l.1.1.2.1 l.1.2.1) (v := law07_FlashPlays.v) (hh := law07_FlashPlays.hh)
    own started (by kernel_rfl) Try.func8 (ChangeSpec.witness6 (enc := enc) (C := Try.checked) false ⟨#[], #[.agg #[.int .i64 0, .int .i64 0], .slice none 0 0], []⟩ 8 (by kernel_rfl) (by kernel_rfl) (by kernel_rfl) (by kernel_rfl))
    laidOut (by kernel_rfl) (by kernel_rfl) Try.underlying4 rfl (fun ds h => by match ds, h with | [_, _], _ => rfl) (by kernel_rfl) E0_ok full_ok rfl (by kernel_rfl) (by kernel_rfl) law07_FlashPlays.okF law07_FlashPlays.hk (fun _ => rfl) plain
theorem over : Rows.flashPlaysRow.holds Try.pinned (OpenSpec.ofChange Rows.flashPlaysSpec) :=
  OpenClaim.holds_of_wide 8 Try.f8 rfl rfl rfl rfl rfl rfl rfl ⟨rfl, rfl, rfl, rfl, rfl⟩ rfl rfl rfl rfl rfl (by kernel_rfl) Try.func8 (Kn.closed_of (by kernel_rfl))
    (of_decide_eq_true (by kernel_rfl)) (by unfold Func.isWrapper; first | (rw [if_pos (by decide +kernel)]; kernel_rfl) | (rw [if_neg (by decide +kernel)]; exact ⟨rfl, rfl⟩))
    (fun os started H enc _ => lifted os started H enc)
end Go.Proofs.Ytpidbpmkogbdeaa.flashPlays
namespace Go.Proofs.Ytpidbpmkogbdeaa
/-- The row, under a short name, for the claim. -/
theorem flashPlays_holds : Rows.FlashPlaysSaid := flashPlays.over
#print axioms flashPlays_holds
end Go.Proofs.Ytpidbpmkogbdeaa
