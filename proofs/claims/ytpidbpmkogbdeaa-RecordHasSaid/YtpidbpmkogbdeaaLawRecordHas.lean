/- The law instar/instarlaw14.RecordHas: whatever the arguments, it returns true, never panics, and its arguments read behind the call as before. -/
import Derived.Test.YtpidbpmkogbdeaaRows
import Derived.Test.YtpidbpmkogbdeaaFlaw14RecordHas
import Derived.Test.YtpidbpmkogbdeaaVd
import Derived.Test.YtpidbpmkogbdeaaKn
import Derived.Test.YtpidbpmkogbdeaaRecordHas
namespace Go.Proofs.Ytpidbpmkogbdeaa.recordHas
open Go Go.Proofs.Ytpidbpmkogbdeaa.Va
open Go.ChangeShapes Go.WideShapes Go.ChangeAt Go.RowKit
set_option linter.unusedVariables false
theorem own : ownKnob Try.prog.godebug = none := by kernel_rfl
theorem laidOut : laidOutB Try.prog = true := by kernel_rfl
theorem plain (l : law14_RecordHas.TA) (h : wfA E0 [105, 108, 108] law14_RecordHas.pA l.1) : (law14_RecordHas.t l.1.1.1 l.1.1.2.1 l.1.2.1.1 l.1.2.1.2.1 l.1.2.2.1.1 l.1.2.2.1.2.1).run = some true := by
  obtain ⟨⟨⟨_, h1⟩, ⟨_, h2, h3⟩, _⟩, ⟨⟨_, h9⟩, ⟨_, h10, h11⟩, _⟩, ⟨⟨_, h14⟩, ⟨_, h15, h16⟩, _⟩, _⟩ := h
  exact Pure.RecordHas _ _ _ _ _ _ h1 h2 (fun x3 hx => by obtain ⟨⟨_, h4⟩, ⟨_, h5⟩, ⟨_, h6⟩, ⟨_, h7⟩, ⟨_, h8⟩, _⟩ := h3 x3 hx; exact ⟨h4, h5, h6, h7, h8⟩) h9 h10 (fun x11 hx => by obtain ⟨⟨_, h12⟩, h13, _⟩ := h11 x11 hx; exact ⟨h12, h13⟩) h14 h15 (fun x16 hx => by obtain ⟨⟨_, h17⟩, h18, _⟩ := h16 x16 hx; exact ⟨h17, h18⟩)
set_option maxRecDepth 100000 in
theorem lifted (os : Os) (started : os.Started) (H : Type) (enc : TypeId × Value → H) :
    ReturnsInHanded {} Try.checked os 12 .any (Rows.recordHasSpec.pre6 enc Try.prog Try.f12 Rows.recordHasRow.domain false) (Rows.recordHasSpec.post enc Try.prog Try.f12 false true false false) :=
  law_lifted (C := Try.checked) (E := E0) (E' := law14_RecordHas.E) (ct := ct) (p := law14_RecordHas.pA) (ts := [105, 108, 108]) (tb := 4) (ms := []) (t := fun (l : law14_RecordHas.TA) => law14_RecordHas.t l.1.1.1 l.1.1.2.1 l.1.2.1.1 l.1.2.1.2.1 l.1.2.2.1.1 l.1.2.2.1.2.1) (v := law14_RecordHas.v) (hh := law14_RecordHas.hh)
    own started (by kernel_rfl) Try.func12 (ChangeSpec.witness6 (enc := enc) (C := Try.checked) false ⟨#[], #[.agg #[.int .i64 0, .slice none 0 0], .agg #[.int .i64 0, .slice none 0 0], .agg #[.int .i64 0, .slice none 0 0]], []⟩ 8 (by kernel_rfl) (by kernel_rfl) (by kernel_rfl) (by kernel_rfl))
    laidOut (by kernel_rfl) (by kernel_rfl) Try.underlying4 rfl (fun ds h => by match ds, h with | [_, _, _], _ => rfl) (by kernel_rfl) E0_ok full_ok rfl (by kernel_rfl) (by kernel_rfl) law14_RecordHas.okF law14_RecordHas.hk (fun _ => rfl) plain
theorem over : Rows.recordHasRow.holds Try.pinned (OpenSpec.ofChange Rows.recordHasSpec) :=
  OpenClaim.holds_of_wide 12 Try.f12 rfl rfl rfl rfl rfl rfl rfl ⟨rfl, rfl, rfl, rfl, rfl⟩ rfl rfl rfl rfl rfl (by kernel_rfl) Try.func12 (Kn.closed_of (by kernel_rfl))
    (of_decide_eq_true (by kernel_rfl)) (by unfold Func.isWrapper; first | (rw [if_pos (by decide +kernel)]; kernel_rfl) | (rw [if_neg (by decide +kernel)]; exact ⟨rfl, rfl⟩))
    (fun os started H enc _ => lifted os started H enc)
end Go.Proofs.Ytpidbpmkogbdeaa.recordHas
namespace Go.Proofs.Ytpidbpmkogbdeaa
/-- The row, under a short name, for the claim. -/
theorem recordHas_holds : Rows.RecordHasSaid := recordHas.over
#print axioms recordHas_holds
end Go.Proofs.Ytpidbpmkogbdeaa
