/- The law instar/instarlaw14.RecordBytes: whatever the arguments, it returns true, never panics, and its arguments read behind the call as before. -/
import Derived.Test.YtpidbpmkogbdeaaRows
import Derived.Test.YtpidbpmkogbdeaaFlaw14RecordBytes
import Derived.Test.YtpidbpmkogbdeaaVd
import Derived.Test.YtpidbpmkogbdeaaKn
import Derived.Test.YtpidbpmkogbdeaaRecordBytes
namespace Go.Proofs.Ytpidbpmkogbdeaa.recordBytes
open Go Go.Proofs.Ytpidbpmkogbdeaa.Va
open Go.ChangeShapes Go.WideShapes Go.ChangeAt Go.RowKit
set_option linter.unusedVariables false
theorem own : ownKnob Try.prog.godebug = none := by kernel_rfl
theorem laidOut : laidOutB Try.prog = true := by kernel_rfl
theorem plain (l : law14_RecordBytes.TA) (h : wfA E0 [105, 108, 114] law14_RecordBytes.pA l.1) : (law14_RecordBytes.t l.1.1.1 l.1.1.2.1 l.1.2.1.1 l.1.2.1.2.1 l.1.2.2.1).run = some true := by
  obtain ⟨⟨⟨_, h1⟩, ⟨_, h2, h3⟩, _⟩, ⟨⟨_, h9⟩, ⟨_, h10, h11⟩, _⟩, ⟨_, h14, h15⟩, _⟩ := h
  exact Pure.RecordBytes _ _ _ _ _ h1 h2 (fun x3 hx => by obtain ⟨⟨_, h4⟩, ⟨_, h5⟩, ⟨_, h6⟩, ⟨_, h7⟩, ⟨_, h8⟩, _⟩ := h3 x3 hx; exact ⟨h4, h5, h6, h7, h8⟩) h9 h10 (fun x11 hx => by obtain ⟨⟨_, h12⟩, h13, _⟩ := h11 x11 hx; exact ⟨h12, h13⟩) h14 (fun x15 hx => by obtain ⟨_, h16⟩ := h15 x15 hx; exact h16)
set_option maxRecDepth 100000 in
theorem lifted (os : Os) (started : os.Started) (H : Type) (enc : TypeId × Value → H) :
    ReturnsInHanded {} Try.checked os 13 .any (Rows.recordBytesSpec.pre6 enc Try.prog Try.f13 Rows.recordBytesRow.domain false) (Rows.recordBytesSpec.post enc Try.prog Try.f13 false true false false) :=
  law_lifted (C := Try.checked) (E := E0) (E' := law14_RecordBytes.E) (ct := ct) (p := law14_RecordBytes.pA) (ts := [105, 108, 114]) (tb := 4) (ms := []) (t := fun (l : law14_RecordBytes.TA) => law14_RecordBytes.t l.1.1.1 l.1.1.2.1 l.1.2.1.1 l.1.2.1.2.1 l.1.2.2.1) (v := law14_RecordBytes.v) (hh := law14_RecordBytes.hh)
    own started (by kernel_rfl) Try.func13 (ChangeSpec.witness6 (enc := enc) (C := Try.checked) false ⟨#[], #[.agg #[.int .i64 0, .slice none 0 0], .agg #[.int .i64 0, .slice none 0 0], .slice none 0 0], []⟩ 8 (by kernel_rfl) (by kernel_rfl) (by kernel_rfl) (by kernel_rfl))
    laidOut (by kernel_rfl) (by kernel_rfl) Try.underlying4 rfl (fun ds h => by match ds, h with | [_, _, _], _ => rfl) (by kernel_rfl) E0_ok full_ok rfl (by kernel_rfl) (by kernel_rfl) law14_RecordBytes.okF law14_RecordBytes.hk (fun _ => rfl) plain
theorem over : Rows.recordBytesRow.holds Try.pinned (OpenSpec.ofChange Rows.recordBytesSpec) :=
  OpenClaim.holds_of_wide 13 Try.f13 rfl rfl rfl rfl rfl rfl rfl ⟨rfl, rfl, rfl, rfl, rfl⟩ rfl rfl rfl rfl rfl (by kernel_rfl) Try.func13 (Kn.closed_of (by kernel_rfl))
    (of_decide_eq_true (by kernel_rfl)) (by unfold Func.isWrapper; first | (rw [if_pos (by decide +kernel)]; kernel_rfl) | (rw [if_neg (by decide +kernel)]; exact ⟨rfl, rfl⟩))
    (fun os started H enc _ => lifted os started H enc)
end Go.Proofs.Ytpidbpmkogbdeaa.recordBytes
namespace Go.Proofs.Ytpidbpmkogbdeaa
/-- The row, under a short name, for the claim. -/
theorem recordBytes_holds : Rows.RecordBytesSaid := recordBytes.over
#print axioms recordBytes_holds
end Go.Proofs.Ytpidbpmkogbdeaa
