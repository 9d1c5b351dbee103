/- The law instar/instarlaw09.DriveStands: whatever the arguments, it returns true, never panics, and its arguments read behind the call as before. -/
import Derived.Test.YtpidbpmkogbdeaaRows
import Derived.Test.YtpidbpmkogbdeaaFlaw09DriveStands
import Derived.Test.YtpidbpmkogbdeaaVd
import Derived.Test.YtpidbpmkogbdeaaKn
import Derived.Test.YtpidbpmkogbdeaaDriveStands
namespace Go.Proofs.Ytpidbpmkogbdeaa.driveStands
open Go Go.Proofs.Ytpidbpmkogbdeaa.Va
open Go.ChangeShapes Go.WideShapes Go.ChangeAt Go.RowKit
set_option linter.unusedVariables false
theorem own : ownKnob Try.prog.godebug = none := by kernel_rfl
theorem laidOut : laidOutB Try.prog = true := by kernel_rfl
theorem plain (l : law09_DriveStands.TA) (h : wfA E0 [125, 141, 127] law09_DriveStands.pA l.1) : (law09_DriveStands.t l.1.1.1 l.1.1.2.1 l.1.1.2.2.1 l.1.1.2.2.2.1 l.1.1.2.2.2.2.1 l.1.1.2.2.2.2.2.1 l.1.2.1 l.1.2.2.1.1 l.1.2.2.1.2.1 l.1.2.2.1.2.2.1 l.1.2.2.1.2.2.2.1 l.1.2.2.1.2.2.2.2.1).run = some true := by
  obtain ⟨⟨⟨_, h1⟩, ⟨_, h2⟩, ⟨_, h3⟩, ⟨_, h4⟩, ⟨_, h5⟩, ⟨_, h6⟩, _⟩, ⟨_, h7, h8⟩, ⟨⟨_, h16⟩, ⟨_, h17⟩, ⟨_, h18⟩, ⟨_, h19⟩, ⟨_, h20, h21⟩, _⟩, _⟩ := h
  exact Pure.DriveStands _ _ _ _ _ _ _ _ _ _ _ _ h1 h2 h3 h4 h5 h6 h7 (fun x8 hx => by obtain ⟨⟨_, h9⟩, ⟨_, h10⟩, ⟨_, h11⟩, ⟨_, h12⟩, ⟨_, h13, h14⟩, _⟩ := h8 x8 hx; exact ⟨h9, h10, h11, h12, h13, (fun x14 hx => by obtain ⟨_, h15⟩ := h14 x14 hx; exact h15)⟩) h16 h17 h18 h19 h20 (fun x21 hx => by obtain ⟨_, h22⟩ := h21 x21 hx; exact h22)
set_option maxRecDepth 100000 in
theorem lifted (os : Os) (started : os.Started) (H : Type) (enc : TypeId × Value → H) :
    ReturnsInHanded {} Try.checked os 17 .any (Rows.driveStandsSpec.pre6 enc Try.prog Try.f17 Rows.driveStandsRow.domain false) (Rows.driveStandsSpec.post enc Try.prog Try.f17 false true false false) :=
  law_lifted (C := Try.checked) (E := E0) (E' := law09_DriveStands.E) (ct := ct) (p := law09_DriveStands.pA) (ts := [125, 141, 127]) (tb := 4) (ms := []) (t := fun (l : law09_DriveStands.TA) => law09_DriveStands.t l.1.1.1 l.1.1.2.1 l.1.1.2.2.1 l.1.1.2.2.2.1 l.1.1.2.2.2.2.1 l.1.1.2.2.2.2.2.1 l.1.2.1 l.1.2.2.1.1 l.1.2.2.1.2.1 l.1.2.2.1.2.2.1 l.1.2.2.1.2.2.2.1 l.1.2.2.1.2.2.2.2.1) (v := law09_DriveStands.v) (hh := law09_DriveStands.hh)
    own started (by kernel_rfl) Try.func17 (ChangeSpec.witness6 (enc := enc) (C := Try.checked) false ⟨#[], #[.agg #[.int .i64 0, .int .i64 0, .int .i64 0, .int .i64 0, .int .i64 0, .int .i64 0], .slice none 0 0, .agg #[.int .i64 0, .int .i64 0, .int .i64 0, .int .i64 0, .slice none 0 0]], []⟩ 8 (by kernel_rfl) (by kernel_rfl) (by kernel_rfl) (by kernel_rfl))
    laidOut (by kernel_rfl) (by kernel_rfl) Try.underlying4 rfl (fun ds h => by match ds, h with | [_, _, _], _ => rfl) (by kernel_rfl) E0_ok full_ok rfl (by kernel_rfl) (by kernel_rfl) law09_DriveStands.okF law09_DriveStands.hk (fun _ => rfl) plain
theorem over : Rows.driveStandsRow.holds Try.pinned (OpenSpec.ofChange Rows.driveStandsSpec) :=
  OpenClaim.holds_of_wide 17 Try.f17 rfl rfl rfl rfl rfl rfl rfl ⟨rfl, rfl, rfl, rfl, rfl⟩ rfl rfl rfl rfl rfl (by kernel_rfl) Try.func17 (Kn.closed_of (by kernel_rfl))
    (of_decide_eq_true (by kernel_rfl)) (by unfold Func.isWrapper; first | (rw [if_pos (by decide +kernel)]; kernel_rfl) | (rw [if_neg (by decide +kernel)]; exact ⟨rfl, rfl⟩))
    (fun os started H enc _ => lifted os started H enc)
end Go.Proofs.Ytpidbpmkogbdeaa.driveStands
namespace Go.Proofs.Ytpidbpmkogbdeaa
/-- The row, under a short name, for the claim. -/
theorem driveStands_holds : Rows.DriveStandsSaid := driveStands.over
#print axioms driveStands_holds
end Go.Proofs.Ytpidbpmkogbdeaa
