/- The law instar/instarlaw09.DriveNone: whatever the arguments, it returns true, never panics, and its arguments read behind the call as before. -/
import Derived.Test.YtpidbpmkogbdeaaRows
import Derived.Test.YtpidbpmkogbdeaaFlaw09DriveNone
import Derived.Test.YtpidbpmkogbdeaaVd
import Derived.Test.YtpidbpmkogbdeaaKn
import Derived.Test.YtpidbpmkogbdeaaDriveNone
namespace Go.Proofs.Ytpidbpmkogbdeaa.driveNone
open Go Go.Proofs.Ytpidbpmkogbdeaa.Va
open Go.ChangeShapes Go.WideShapes Go.ChangeAt Go.RowKit
set_option linter.unusedVariables false
theorem own : ownKnob Try.prog.godebug = none := by kernel_rfl
theorem laidOut : laidOutB Try.prog = true := by kernel_rfl
theorem plain (l : law09_DriveNone.TA) (h : wfA E0 [125, 64, 127] law09_DriveNone.pA l.1) : (law09_DriveNone.t l.1.1.1 l.1.1.2.1 l.1.1.2.2.1 l.1.1.2.2.2.1 l.1.1.2.2.2.2.1 l.1.1.2.2.2.2.2.1 l.1.2.1.1 l.1.2.1.2.1 l.1.2.2.1.1 l.1.2.2.1.2.1 l.1.2.2.1.2.2.1 l.1.2.2.1.2.2.2.1 l.1.2.2.1.2.2.2.2.1).run = some true := by
  obtain ⟨⟨⟨_, h1⟩, ⟨_, h2⟩, ⟨_, h3⟩, ⟨_, h4⟩, ⟨_, h5⟩, ⟨_, h6⟩, _⟩, ⟨⟨_, h7⟩, ⟨_, h8⟩, _⟩, ⟨⟨_, h9⟩, ⟨_, h10⟩, ⟨_, h11⟩, ⟨_, h12⟩, ⟨_, h13, h14⟩, _⟩, _⟩ := h
  exact Pure.DriveNone _ _ _ _ _ _ _ _ _ _ _ _ _ h1 h2 h3 h4 h5 h6 h7 h8 h9 h10 h11 h12 h13 (fun x14 hx => by obtain ⟨_, h15⟩ := h14 x14 hx; exact h15)
set_option maxRecDepth 100000 in
theorem lifted (os : Os) (started : os.Started) (H : Type) (enc : TypeId × Value → H) :
    ReturnsInHanded {} Try.checked os 15 .any (Rows.driveNoneSpec.pre6 enc Try.prog Try.f15 Rows.driveNoneRow.domain false) (Rows.driveNoneSpec.post enc Try.prog Try.f15 false true false false) :=
  law_lifted (C := Try.checked) (E := E0) (E' := law09_DriveNone.E) (ct := ct) (p := law09_DriveNone.pA) (ts := [125, 64, 127]) (tb := 4) (ms := []) (t := fun (l : law09_DriveNone.TA) => law09_DriveNone.t l.1.1.1 l.1.1.2.1 l.1.1.2.2.1 l.1.1.2.2.2.1 l.1.1.2.2.2.2.1 l.1.1.2.2.2.2.2.1 l.1.2.1.1 l.1.2.1.2.1 l.1.2.2.1.1 l.1.2.2.1.2.1 l.1.2.2.1.2.2.1 l.1.2.2.1.2.2.2.1 l.1.2.2.1.2.2.2.2.1) (v := law09_DriveNone.v) (hh := law09_DriveNone.hh)
    own started (by kernel_rfl) Try.func15 (ChangeSpec.witness6 (enc := enc) (C := Try.checked) false ⟨#[], #[.agg #[.int .i64 0, .int .i64 0, .int .i64 0, .int .i64 0, .int .i64 0, .int .i64 0], .agg #[.int .i64 0, .int .i64 0], .agg #[.int .i64 0, .int .i64 0, .int .i64 0, .int .i64 0, .slice none 0 0]], []⟩ 8 (by kernel_rfl) (by kernel_rfl) (by kernel_rfl) (by kernel_rfl))
    laidOut (by kernel_rfl) (by kernel_rfl) Try.underlying4 rfl (fun ds h => by match ds, h with | [_, _, _], _ => rfl) (by kernel_rfl) E0_ok full_ok rfl (by kernel_rfl) (by kernel_rfl) law09_DriveNone.okF law09_DriveNone.hk (fun _ => rfl) plain
theorem over : Rows.driveNoneRow.holds Try.pinned (OpenSpec.ofChange Rows.driveNoneSpec) :=
  OpenClaim.holds_of_wide 15 Try.f15 rfl rfl rfl rfl rfl rfl rfl ⟨rfl, rfl, rfl, rfl, rfl⟩ rfl rfl rfl rfl rfl (by kernel_rfl) Try.func15 (Kn.closed_of (by kernel_rfl))
    (of_decide_eq_true (by kernel_rfl)) (by unfold Func.isWrapper; first | (rw [if_pos (by decide +kernel)]; kernel_rfl) | (rw [if_neg (by decide +kernel)]; exact ⟨rfl, rfl⟩))
    (fun os started H enc _ => lifted os started H enc)
end Go.Proofs.Ytpidbpmkogbdeaa.driveNone
namespace Go.Proofs.Ytpidbpmkogbdeaa
/-- The row, under a short name, for the claim. -/
theorem driveNone_holds : Rows.DriveNoneSaid := driveNone.over
#print axioms driveNone_holds
end Go.Proofs.Ytpidbpmkogbdeaa
