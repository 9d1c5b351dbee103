/- The law instar/instarlaw07.FlashOnly: whatever the arguments, it returns true, never panics, and its arguments read behind the call as before. -/
import Derived.Test.YtpidbpmkogbdeaaRows
import Derived.Test.YtpidbpmkogbdeaaFlaw07FlashOnly
import Derived.Test.YtpidbpmkogbdeaaVd
import Derived.Test.YtpidbpmkogbdeaaKn
import Derived.Test.YtpidbpmkogbdeaaFlashOnly
namespace Go.Proofs.Ytpidbpmkogbdeaa.flashOnly
open Go Go.Proofs.Ytpidbpmkogbdeaa.Va
open Go.ChangeShapes Go.WideShapes Go.ChangeAt Go.RowKit
set_option linter.unusedVariables false
theorem own : ownKnob Try.prog.godebug = none := by kernel_rfl
theorem laidOut : laidOutB Try.prog = true := by kernel_rfl
theorem plain (l : law07_FlashOnly.TA) (h : wfA E0 [45, 47] law07_FlashOnly.pA l.1) : (law07_FlashOnly.t l.1.1 l.1.2.1.1 l.1.2.1.2.1 l.1.2.1.2.2.1 l.1.2.1.2.2.2.1).run = some true := by
  obtain ⟨⟨_, h1, h2⟩, ⟨⟨_, h9⟩, ⟨_, h10⟩, ⟨_, h11⟩, ⟨_, h12, h13⟩, _⟩, _⟩ := h
  exact Pure.FlashOnly _ _ _ _ _ h1 (fun x2 hx => by obtain ⟨⟨_, h3⟩, ⟨_, h4⟩, ⟨_, h5⟩, ⟨_, h6, h7⟩, _⟩ := h2 x2 hx; exact ⟨h3, h4, h5, h6, (fun x7 hx => by obtain ⟨_, h8⟩ := h7 x7 hx; exact h8)⟩) h9 h10 h11 h12 (fun x13 hx => by obtain ⟨_, h14⟩ := h13 x13 hx; exact h14)
set_option maxRecDepth 100000 in
theorem lifted (os : Os) (started : os.Started) (H : Type) (enc : TypeId × Value → H) :
    ReturnsInHanded {} Try.checked os 6 .any (Rows.flashOnlySpec.pre6 enc Try.prog Try.f6 Rows.flashOnlyRow.domain false) (Rows.flashOnlySpec.post enc Try.prog Try.f6 false true false false) :=
  law_lifted (C := Try.checked) (E := E0) (E' := law07_FlashOnly.E) (ct := ct) (p := law07_FlashOnly.pA) (ts := [45, 47]) (tb := 4) (ms := []) (t := fun (l : law07_FlashOnly.TA) => law07_FlashOnly.t l.1.1 l.1.2.1.1 l.1.2.1.2.1 l.1.2.1.2.2.1 l.1.2.1.2.2.2.1) (v := law07_FlashOnly.v) (hh := law07_FlashOnly.hh)
    own started (by kernel_rfl) Try.func6 (ChangeSpec.witness6 (enc := enc) (C := Try.checked) false ⟨#[], #[.slice none 0 0, .agg #[.int .i64 0, .int .i64 0, .int .u32 0, .slice none 0 0]], []⟩ 8 (by kernel_rfl) (by kernel_rfl) (by kernel_rfl) (by kernel_rfl))
    laidOut (by kernel_rfl) (by kernel_rfl) Try.underlying4 rfl (fun ds h => by match ds, h with | [_, _], _ => rfl) (by kernel_rfl) E0_ok full_ok rfl (by kernel_rfl) (by kernel_rfl) law07_FlashOnly.okF law07_FlashOnly.hk (fun _ => rfl) plain
theorem over : Rows.flashOnlyRow.holds Try.pinned (OpenSpec.ofChange Rows.flashOnlySpec) :=
  OpenClaim.holds_of_wide 6 Try.f6 rfl rfl rfl rfl rfl rfl rfl ⟨rfl, rfl, rfl, rfl, rfl⟩ rfl rfl rfl rfl rfl (by kernel_rfl) Try.func6 (Kn.closed_of (by kernel_rfl))
    (of_decide_eq_true (by kernel_rfl)) (by unfold Func.isWrapper; first | (rw [if_pos (by decide +kernel)]; kernel_rfl) | (rw [if_neg (by decide +kernel)]; exact ⟨rfl, rfl⟩))
    (fun os started H enc _ => lifted os started H enc)
end Go.Proofs.Ytpidbpmkogbdeaa.flashOnly
namespace Go.Proofs.Ytpidbpmkogbdeaa
/-- The row, under a short name, for the claim. -/
theorem flashOnly_holds : Rows.FlashOnlySaid := flashOnly.over
#print axioms flashOnly_holds
end Go.Proofs.Ytpidbpmkogbdeaa
