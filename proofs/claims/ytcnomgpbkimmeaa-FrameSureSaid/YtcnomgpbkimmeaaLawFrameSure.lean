/- The law instar/instarlaw10.FrameSure: whatever the arguments, it returns true, never panics, and its arguments read behind the call as before. -/
import Derived.Test.YtcnomgpbkimmeaaRows
import Derived.Test.YtcnomgpbkimmeaaFlaw10
import Derived.Test.YtcnomgpbkimmeaaVd
import Derived.Test.YtcnomgpbkimmeaaKn
import Derived.Test.YtcnomgpbkimmeaaFrameSure
namespace Go.Proofs.Ytcnomgpbkimmeaa.frameSure
open Go Go.Proofs.Ytcnomgpbkimmeaa.Va
open Go.ChangeShapes Go.WideShapes Go.ChangeAt Go.RowKit
set_option linter.unusedVariables false
theorem own : ownKnob Try.prog.godebug = none := by kernel_rfl
theorem laidOut : laidOutB Try.prog = true := by kernel_rfl
theorem plain (l : law10_FrameSure.TA) (h : wfA E0 [65, 25, 25] law10_FrameSure.pA l.1) : (law10_FrameSure.t l.1.1.1 l.1.1.2.1 l.1.1.2.2.1 l.1.2.1 l.1.2.2.1).run = some true := by
  obtain ⟨⟨⟨_, h1⟩, ⟨_, h2⟩, ⟨_, h3, h4⟩, _⟩, ⟨_, h6, h7⟩, ⟨_, h9, h10⟩, _⟩ := h
  exact Pure.FrameSure _ _ _ _ _ h1 h2 h3 (fun x4 hx => by obtain ⟨_, h5⟩ := h4 x4 hx; exact h5) h6 (fun x7 hx => by obtain ⟨_, h8⟩ := h7 x7 hx; exact h8) h9 (fun x10 hx => by obtain ⟨_, h11⟩ := h10 x10 hx; exact h11)
set_option maxRecDepth 100000 in
theorem lifted (os : Os) (started : os.Started) (H : Type) (enc : TypeId × Value → H) :
    ReturnsInHanded {} Try.checked os 11 .any (Rows.frameSureSpec.pre6 enc Try.prog Try.f11 Rows.frameSureRow.domain false) (Rows.frameSureSpec.post enc Try.prog Try.f11 false true false false) :=
  law_lifted (C := Try.checked) (E := E0) (E' := law10_FrameSure.E) (ct := ct) (p := law10_FrameSure.pA) (ts := [65, 25, 25]) (tb := 4) (ms := []) (t := fun (l : law10_FrameSure.TA) => law10_FrameSure.t l.1.1.1 l.1.1.2.1 l.1.1.2.2.1 l.1.2.1 l.1.2.2.1) (v := law10_FrameSure.v) (hh := law10_FrameSure.hh)
    own started (by kernel_rfl) Try.func11 (ChangeSpec.witness6 (enc := enc) (C := Try.checked) false ⟨#[], #[.agg #[.int .i64 0, .int .i64 0, .slice none 0 0], .slice none 0 0, .slice none 0 0], []⟩ 8 (by kernel_rfl) (by kernel_rfl) (by kernel_rfl) (by kernel_rfl))
    laidOut (by kernel_rfl) (by kernel_rfl) Try.underlying4 rfl (fun ds h => by match ds, h with | [_, _, _], _ => rfl) (by kernel_rfl) E0_ok full_ok rfl (by kernel_rfl) (by kernel_rfl) law10_FrameSure.okF law10_FrameSure.hk (fun _ => rfl) plain
theorem over : Rows.frameSureRow.holds Try.pinned (OpenSpec.ofChange Rows.frameSureSpec) :=
  OpenClaim.holds_of_wide 11 Try.f11 rfl rfl rfl rfl rfl rfl rfl ⟨rfl, rfl, rfl, rfl, rfl⟩ rfl rfl rfl rfl rfl (by kernel_rfl) Try.func11 (Kn.closed_of (by kernel_rfl))
    (of_decide_eq_true (by kernel_rfl)) (by unfold Func.isWrapper; first | (rw [if_pos (by decide +kernel)]; kernel_rfl) | (rw [if_neg (by decide +kernel)]; exact ⟨rfl, rfl⟩))
    (fun os started H enc _ => lifted os started H enc)
end Go.Proofs.Ytcnomgpbkimmeaa.frameSure
namespace Go.Proofs.Ytcnomgpbkimmeaa
/-- The row, under a short name, for the claim. -/
theorem frameSure_holds : Rows.FrameSureSaid := frameSure.over
#print axioms frameSure_holds
end Go.Proofs.Ytcnomgpbkimmeaa
