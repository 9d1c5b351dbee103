/- The law instar/instarlaw07.FlashNone: whatever the arguments, it returns true, never panics, and its arguments read behind the call as before. -/
import Derived.Test.YtpidbpmkogbdeaaRows
import Derived.Test.YtpidbpmkogbdeaaFlaw07FlashNone
import Derived.Test.YtpidbpmkogbdeaaVd
import Derived.Test.YtpidbpmkogbdeaaKn
import Derived.Test.YtpidbpmkogbdeaaFlashNone
namespace Go.Proofs.Ytpidbpmkogbdeaa.flashNone
open Go Go.Proofs.Ytpidbpmkogbdeaa.Va
open Go.ChangeShapes Go.WideShapes Go.ChangeAt Go.RowKit
set_option linter.unusedVariables false
theorem own : ownKnob Try.prog.godebug = none := by kernel_rfl
theorem laidOut : laidOutB Try.prog = true := by kernel_rfl
theorem plain (l : law07_FlashNone.TA) (h : wfA E0 [47] law07_FlashNone.pA l.1) : (law07_FlashNone.t l.1.1.1 l.1.1.2.1 l.1.1.2.2.1 l.1.1.2.2.2.1).run = some true := by
  obtain ⟨⟨⟨_, h1⟩, ⟨_, h2⟩, ⟨_, h3⟩, ⟨_, h4, h5⟩, _⟩, _⟩ := h
  exact Pure.FlashNone _ _ _ _ h1 h2 h3 h4 (fun x5 hx => by obtain ⟨_, h6⟩ := h5 x5 hx; exact h6)
set_option maxRecDepth 100000 in
theorem lifted (os : Os) (started : os.Started) (H : Type) (enc : TypeId × Value → H) :
    ReturnsInHanded {} Try.checked os 9 .any (Rows.flashNoneSpec.pre6 enc Try.prog Try.f9 Rows.flashNoneRow.domain false) (Rows.flashNoneSpec.post enc Try.prog Try.f9 false true false false) :=
  law_lifted (C := Try.checked) (E := E0) (E' := law07_FlashNone.E) (ct := ct) (p := law07_FlashNone.pA) (ts := [47]) (tb := 4) (ms := []) (t := fun (l : law07_FlashNone.TA) => law07_FlashNone.t l.1.1.1 l.1.1.2.1 l.1.1.2.2.1 l.1.1.2.2.2.1) (v := law07_FlashNone.v) (hh := law07_FlashNone.hh)
    own started (by kernel_rfl) Try.func9 (ChangeSpec.witness6 (enc := enc) (C := Try.checked) false ⟨#[], #[.agg #[.int .i64 0, .int .i64 0, .int .u32 0, .slice none 0 0]], []⟩ 8 (by kernel_rfl) (by kernel_rfl) (by kernel_rfl) (by kernel_rfl))
    laidOut (by kernel_rfl) (by kernel_rfl) Try.underlying4 rfl (fun ds h => by match ds, h with | [_], _ => rfl) (by kernel_rfl) E0_ok full_ok rfl (by kernel_rfl) (by kernel_rfl) law07_FlashNone.okF law07_FlashNone.hk (fun _ => rfl) plain
theorem over : Rows.flashNoneRow.holds Try.pinned (OpenSpec.ofChange Rows.flashNoneSpec) :=
  OpenClaim.holds_of_wide 9 Try.f9 rfl rfl rfl rfl rfl rfl rfl ⟨rfl, rfl, rfl, rfl, rfl⟩ rfl rfl rfl rfl rfl (by kernel_rfl) Try.func9 (Kn.closed_of (by kernel_rfl))
    (of_decide_eq_true (by kernel_rfl)) (by unfold Func.isWrapper; first | (rw [if_pos (by decide +kernel)]; kernel_rfl) | (rw [if_neg (by decide +kernel)]; exact ⟨rfl, rfl⟩))
    (fun os started H enc _ => lifted os started H enc)
end Go.Proofs.Ytpidbpmkogbdeaa.flashNone
namespace Go.Proofs.Ytpidbpmkogbdeaa
/-- The row, under a short name, for the claim. -/
theorem flashNone_holds : Rows.FlashNoneSaid := flashNone.over
#print axioms flashNone_holds
end Go.Proofs.Ytpidbpmkogbdeaa
