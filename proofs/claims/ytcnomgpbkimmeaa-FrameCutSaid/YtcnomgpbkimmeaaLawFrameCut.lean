/- The law instar/instarlaw10.FrameCut: whatever the arguments, it returns true, never panics, and its arguments read behind the call as before. -/
import Derived.Test.YtcnomgpbkimmeaaRows
import Derived.Test.YtcnomgpbkimmeaaFlaw10
import Derived.Test.YtcnomgpbkimmeaaVd
import Derived.Test.YtcnomgpbkimmeaaKn
import Derived.Test.YtcnomgpbkimmeaaFrameCut
namespace Go.Proofs.Ytcnomgpbkimmeaa.frameCut
open Go Go.Proofs.Ytcnomgpbkimmeaa.Va
open Go.ChangeShapes Go.WideShapes Go.ChangeAt Go.RowKit
set_option linter.unusedVariables false
theorem own : ownKnob Try.prog.godebug = none := by kernel_rfl
theorem laidOut : laidOutB Try.prog = true := by kernel_rfl
theorem plain (l : law10_FrameCut.TA) (h : wfA E0 [65, 3, 42] law10_FrameCut.pA l.1) : (law10_FrameCut.t l.1.1.1 l.1.1.2.1 l.1.1.2.2.1 l.1.2.1 l.1.2.2.1).run = some true := by
  obtain ⟨⟨⟨_, h1⟩, ⟨_, h2⟩, ⟨_, h3, h4⟩, _⟩, ⟨_, h6⟩, ⟨_, h7⟩, _⟩ := h
  exact Pure.FrameCut _ _ _ _ _ h1 h2 h3 (fun x4 hx => by obtain ⟨_, h5⟩ := h4 x4 hx; exact h5) h6 h7
set_option maxRecDepth 100000 in
theorem lifted (os : Os) (started : os.Started) (H : Type) (enc : TypeId × Value → H) :
    ReturnsInHanded {} Try.checked os 12 .any (Rows.frameCutSpec.pre6 enc Try.prog Try.f12 Rows.frameCutRow.domain false) (Rows.frameCutSpec.post enc Try.prog Try.f12 false true false false) :=
  law_lifted (C := Try.checked) (E := E0) (E' := law10_FrameCut.E) (ct := ct) (p := law10_FrameCut.pA) (ts := [65, 3, 42]) (tb := 4) (ms := []) (t := fun (l : law10_FrameCut.TA) => law10_FrameCut.t l.1.1.1 l.1.1.2.1 l.1.1.2.2.1 l.1.2.1 l.1.2.2.1) (v := law10_FrameCut.v) (hh := law10_FrameCut.hh)
    own started (by kernel_rfl) Try.func12 (ChangeSpec.witness6 (enc := enc) (C := Try.checked) false ⟨#[], #[.agg #[.int .i64 0, .int .i64 0, .slice none 0 0], .int .i64 0, .int .u32 0], []⟩ 8 (by kernel_rfl) (by kernel_rfl) (by kernel_rfl) (by kernel_rfl))
    laidOut (by kernel_rfl) (by kernel_rfl) Try.underlying4 rfl (fun ds h => by match ds, h with | [_, _, _], _ => rfl) (by kernel_rfl) E0_ok full_ok rfl (by kernel_rfl) (by kernel_rfl) law10_FrameCut.okF law10_FrameCut.hk (fun _ => rfl) plain
theorem over : Rows.frameCutRow.holds Try.pinned (OpenSpec.ofChange Rows.frameCutSpec) :=
  OpenClaim.holds_of_wide 12 Try.f12 rfl rfl rfl rfl rfl rfl rfl ⟨rfl, rfl, rfl, rfl, rfl⟩ rfl rfl rfl rfl rfl (by kernel_rfl) Try.func12 (Kn.closed_of (by kernel_rfl))
    (of_decide_eq_true (by kernel_rfl)) (by unfold Func.isWrapper; first | (rw [if_pos (by decide +kernel)]; kernel_rfl) | (rw [if_neg (by decide +kernel)]; exact ⟨rfl, rfl⟩))
    (fun os started H enc _ => lifted os started H enc)
end Go.Proofs.Ytcnomgpbkimmeaa.frameCut
namespace Go.Proofs.Ytcnomgpbkimmeaa
/-- The row, under a short name, for the claim. -/
theorem frameCut_holds : Rows.FrameCutSaid := frameCut.over
#print axioms frameCut_holds
end Go.Proofs.Ytcnomgpbkimmeaa
