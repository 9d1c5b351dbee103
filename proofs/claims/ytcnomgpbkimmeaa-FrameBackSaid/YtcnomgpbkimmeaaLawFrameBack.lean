/- The law instar/instarlaw10.FrameBack: whatever the arguments, it returns true, never panics, and its arguments read behind the call as before. -/
import Derived.Test.YtcnomgpbkimmeaaRows
import Derived.Test.YtcnomgpbkimmeaaFlaw10
import Derived.Test.YtcnomgpbkimmeaaVd
import Derived.Test.YtcnomgpbkimmeaaKn
import Derived.Test.YtcnomgpbkimmeaaFrameBack
namespace Go.Proofs.Ytcnomgpbkimmeaa.frameBack
open Go Go.Proofs.Ytcnomgpbkimmeaa.Va
open Go.ChangeShapes Go.WideShapes Go.ChangeAt Go.RowKit
set_option linter.unusedVariables false
theorem own : ownKnob Try.prog.godebug = none := by kernel_rfl
theorem laidOut : laidOutB Try.prog = true := by kernel_rfl
theorem plain (l : law10_FrameBack.TA) (h : wfA E0 [65, 25] law10_FrameBack.pA l.1) : (law10_FrameBack.t l.1.1.1 l.1.1.2.1 l.1.1.2.2.1 l.1.2.1).run = some true := by
  obtain ⟨⟨⟨_, h1⟩, ⟨_, h2⟩, ⟨_, h3, h4⟩, _⟩, ⟨_, h6, h7⟩, _⟩ := h
  exact Pure.FrameBack _ _ _ _ h1 h2 h3 (fun x4 hx => by obtain ⟨_, h5⟩ := h4 x4 hx; exact h5) h6 (fun x7 hx => by obtain ⟨_, h8⟩ := h7 x7 hx; exact h8)
set_option maxRecDepth 100000 in
theorem lifted (os : Os) (started : os.Started) (H : Type) (enc : TypeId × Value → H) :
    ReturnsInHanded {} Try.checked os 10 .any (Rows.frameBackSpec.pre6 enc Try.prog Try.f10 Rows.frameBackRow.domain false) (Rows.frameBackSpec.post enc Try.prog Try.f10 false true false false) :=
  law_lifted (C := Try.checked) (E := E0) (E' := law10_FrameBack.E) (ct := ct) (p := law10_FrameBack.pA) (ts := [65, 25]) (tb := 4) (ms := []) (t := fun (l : law10_FrameBack.TA) => law10_FrameBack.t l.1.1.1 l.1.1.2.1 l.1.1.2.2.1 l.1.2.1) (v := law10_FrameBack.v) (hh := law10_FrameBack.hh)
    own started (by kernel_rfl) Try.func10 (ChangeSpec.witness6 (enc := enc) (C := Try.checked) false ⟨#[], #[.agg #[.int .i64 0, .int .i64 0, .slice none 0 0], .slice none 0 0], []⟩ 8 (by kernel_rfl) (by kernel_rfl) (by kernel_rfl) (by kernel_rfl))
    laidOut (by kernel_rfl) (by kernel_rfl) Try.underlying4 rfl (fun ds h => by match ds, h with | [_, _], _ => rfl) (by kernel_rfl) E0_ok full_ok rfl (by kernel_rfl) (by kernel_rfl) law10_FrameBack.okF law10_FrameBack.hk (fun _ => rfl) plain
theorem over : Rows.frameBackRow.holds Try.pinned (OpenSpec.ofChange Rows.frameBackSpec) :=
  OpenClaim.holds_of_wide 10 Try.f10 rfl rfl rfl rfl rfl rfl rfl ⟨rfl, rfl, rfl, rfl, rfl⟩ rfl rfl rfl rfl rfl (by kernel_rfl) Try.func10 (Kn.closed_of (by kernel_rfl))
    (of_decide_eq_true (by kernel_rfl)) (by unfold Func.isWrapper; first | (rw [if_pos (by decide +kernel)]; kernel_rfl) | (rw [if_neg (by decide +kernel)]; exact ⟨rfl, rfl⟩))
    (fun os started H enc _ => lifted os started H enc)
end Go.Proofs.Ytcnomgpbkimmeaa.frameBack
namespace Go.Proofs.Ytcnomgpbkimmeaa
/-- The row, under a short name, for the claim. -/
theorem frameBack_holds : Rows.FrameBackSaid := frameBack.over
#print axioms frameBack_holds
end Go.Proofs.Ytcnomgpbkimmeaa
